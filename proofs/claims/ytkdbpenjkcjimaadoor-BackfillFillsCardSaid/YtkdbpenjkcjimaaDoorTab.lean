/- The program's types in a table of the engine's kind, each row proved against the program. -/
import Derived.Test.YtkdbpenjkcjimaaDoorProg
import Derived.Test.YtkdbpenjkcjimaaDoorEng2
import Derived.KernelRfl
namespace Go.Proofs.YtkdbpenjkcjimaaDoor
open Go.Proofs.YtkdbpenjkcjimaaDoor.Eng Go.RowKit

def TT : List (Nat × TI) :=
  [(2, ⟨.int .i64, 1, 8, some [(.int .i64 0)]⟩),
   (3, ⟨.int .i64, 1, 8, some [(.int .i64 0)]⟩),
   (4, ⟨.bool, 1, 1, some [(.bool false)]⟩),
   (5, ⟨.int .u8, 1, 1, some [(.int .u8 0)]⟩),
   (9, ⟨.str, 1, 16, some [(.string ByteArray.empty)]⟩),
   (12, ⟨.int .u64, 1, 8, some [(.int .u64 0)]⟩),
   (21, ⟨.int .i32, 1, 4, some [(.int .i32 0)]⟩),
   (22, ⟨.int .u64, 1, 8, some [(.int .u64 0)]⟩),
   (23, ⟨.slice 34, 1, 24, some [(.slice none 0 0)]⟩),
   (24, ⟨.struct [(22, 0), (5, 1), (5, 2), (5, 3), (5, 4), (5, 5), (5, 6), (23, 7), (23, 8)], 9, 64, some [(.int .u64 0), (.int .u8 0), (.int .u8 0), (.int .u8 0), (.int .u8 0), (.int .u8 0), (.int .u8 0), (.slice none 0 0), (.slice none 0 0)]⟩),
   (25, ⟨.struct [(22, 0), (5, 1), (5, 2), (5, 3), (5, 4), (5, 5), (5, 6), (23, 7), (23, 8)], 9, 64, some [(.int .u64 0), (.int .u8 0), (.int .u8 0), (.int .u8 0), (.int .u8 0), (.int .u8 0), (.int .u8 0), (.slice none 0 0), (.slice none 0 0)]⟩),
   (27, ⟨.ptr 73, 1, 8, some [(.pointer none)]⟩),
   (28, ⟨.ptr 68, 1, 8, some [(.pointer none)]⟩),
   (32, ⟨.int .i64, 1, 8, some [(.int .i64 0)]⟩),
   (34, ⟨.int .u8, 1, 1, some [(.int .u8 0)]⟩),
   (35, ⟨.arr 2 34, 2, 2, some [(.int .u8 0), (.int .u8 0)]⟩),
   (36, ⟨.arr 2 34, 2, 2, some [(.int .u8 0), (.int .u8 0)]⟩),
   (41, ⟨.slice 36, 1, 24, some [(.slice none 0 0)]⟩),
   (54, ⟨.struct [(21, 0), (21, 1), (21, 2), (21, 3), (5, 4), (5, 5), (5, 6)], 7, 20, some [(.int .i32 0), (.int .i32 0), (.int .i32 0), (.int .i32 0), (.int .u8 0), (.int .u8 0), (.int .u8 0)]⟩),
   (55, ⟨.struct [(21, 0), (21, 1), (21, 2), (21, 3), (5, 4), (5, 5), (5, 6)], 7, 20, some [(.int .i32 0), (.int .i32 0), (.int .i32 0), (.int .i32 0), (.int .u8 0), (.int .u8 0), (.int .u8 0)]⟩),
   (56, ⟨.arr 2 55, 14, 40, some [(.int .i32 0), (.int .i32 0), (.int .i32 0), (.int .i32 0), (.int .u8 0), (.int .u8 0), (.int .u8 0), (.int .i32 0), (.int .i32 0), (.int .i32 0), (.int .i32 0), (.int .u8 0), (.int .u8 0), (.int .u8 0)]⟩),
   (57, ⟨.slice 92, 1, 24, some [(.slice none 0 0)]⟩),
   (58, ⟨.int .u16, 1, 2, some [(.int .u16 0)]⟩),
   (59, ⟨.arr 2 58, 2, 4, some [(.int .u16 0), (.int .u16 0)]⟩),
   (60, ⟨.struct [(22, 0), (22, 1), (56, 2), (57, 16), (59, 17)], 19, 88, some [(.int .u64 0), (.int .u64 0), (.int .i32 0), (.int .i32 0), (.int .i32 0), (.int .i32 0), (.int .u8 0), (.int .u8 0), (.int .u8 0), (.int .i32 0), (.int .i32 0), (.int .i32 0), (.int .i32 0), (.int .u8 0), (.int .u8 0), (.int .u8 0), (.slice none 0 0), (.int .u16 0), (.int .u16 0)]⟩),
   (61, ⟨.struct [(22, 0), (22, 1), (56, 2), (57, 16), (59, 17)], 19, 88, some [(.int .u64 0), (.int .u64 0), (.int .i32 0), (.int .i32 0), (.int .i32 0), (.int .i32 0), (.int .u8 0), (.int .u8 0), (.int .u8 0), (.int .i32 0), (.int .i32 0), (.int .i32 0), (.int .i32 0), (.int .u8 0), (.int .u8 0), (.int .u8 0), (.slice none 0 0), (.int .u16 0), (.int .u16 0)]⟩),
   (66, ⟨.arr 256 36, 512, 512, none⟩),
   (67, ⟨.struct [(22, 0), (22, 1), (22, 2), (66, 3)], 515, 536, some (([(.int .u64 0), (.int .u64 0), (.int .u64 0)] ++ flat (e2 .u8) (Arr.rep 256 ((0 : Int), (0 : Int))).1))⟩),
   (68, ⟨.struct [(22, 0), (22, 1), (22, 2), (66, 3)], 515, 536, some (([(.int .u64 0), (.int .u64 0), (.int .u64 0)] ++ flat (e2 .u8) (Arr.rep 256 ((0 : Int), (0 : Int))).1))⟩),
   (70, ⟨.ptr 103, 1, 8, some [(.pointer none)]⟩),
   (71, ⟨.ptr 121, 1, 8, some [(.pointer none)]⟩),
   (72, ⟨.struct [(5, 0), (3, 1), (61, 2), (23, 21), (70, 22), (71, 23)], 24, 144, some [(.int .u8 0), (.int .i64 0), (.int .u64 0), (.int .u64 0), (.int .i32 0), (.int .i32 0), (.int .i32 0), (.int .i32 0), (.int .u8 0), (.int .u8 0), (.int .u8 0), (.int .i32 0), (.int .i32 0), (.int .i32 0), (.int .i32 0), (.int .u8 0), (.int .u8 0), (.int .u8 0), (.slice none 0 0), (.int .u16 0), (.int .u16 0), (.slice none 0 0), (.pointer none), (.pointer none)]⟩),
   (73, ⟨.struct [(5, 0), (3, 1), (61, 2), (23, 21), (70, 22), (71, 23)], 24, 144, some [(.int .u8 0), (.int .i64 0), (.int .u64 0), (.int .u64 0), (.int .i32 0), (.int .i32 0), (.int .i32 0), (.int .i32 0), (.int .u8 0), (.int .u8 0), (.int .u8 0), (.int .i32 0), (.int .i32 0), (.int .i32 0), (.int .i32 0), (.int .u8 0), (.int .u8 0), (.int .u8 0), (.slice none 0 0), (.int .u16 0), (.int .u16 0), (.slice none 0 0), (.pointer none), (.pointer none)]⟩),
   (90, ⟨.ptr 55, 1, 8, some [(.pointer none)]⟩),
   (91, ⟨.struct [(21, 0), (21, 1), (21, 2), (21, 3), (5, 4), (5, 5)], 6, 20, some [(.int .i32 0), (.int .i32 0), (.int .i32 0), (.int .i32 0), (.int .u8 0), (.int .u8 0)]⟩),
   (92, ⟨.struct [(21, 0), (21, 1), (21, 2), (21, 3), (5, 4), (5, 5)], 6, 20, some [(.int .i32 0), (.int .i32 0), (.int .i32 0), (.int .i32 0), (.int .u8 0), (.int .u8 0)]⟩),
   (96, ⟨.struct [(21, 0), (21, 1), (21, 2), (21, 3)], 4, 16, some [(.int .i32 0), (.int .i32 0), (.int .i32 0), (.int .i32 0)]⟩),
   (97, ⟨.struct [(21, 0), (21, 1), (21, 2), (21, 3)], 4, 16, some [(.int .i32 0), (.int .i32 0), (.int .i32 0), (.int .i32 0)]⟩),
   (100, ⟨.ptr 61, 1, 8, some [(.pointer none)]⟩),
   (102, ⟨.struct [(22, 0), (23, 1), (34, 2)], 3, 40, some [(.int .u64 0), (.slice none 0 0), (.int .u8 0)]⟩),
   (103, ⟨.struct [(22, 0), (23, 1), (34, 2)], 3, 40, some [(.int .u64 0), (.slice none 0 0), (.int .u8 0)]⟩),
   (104, ⟨.ptr 107, 1, 8, some [(.pointer none)]⟩),
   (106, ⟨.struct [(61, 0), (4, 19)], 20, 96, some [(.int .u64 0), (.int .u64 0), (.int .i32 0), (.int .i32 0), (.int .i32 0), (.int .i32 0), (.int .u8 0), (.int .u8 0), (.int .u8 0), (.int .i32 0), (.int .i32 0), (.int .i32 0), (.int .i32 0), (.int .u8 0), (.int .u8 0), (.int .u8 0), (.slice none 0 0), (.int .u16 0), (.int .u16 0), (.bool false)]⟩),
   (107, ⟨.struct [(61, 0), (4, 19)], 20, 96, some [(.int .u64 0), (.int .u64 0), (.int .i32 0), (.int .i32 0), (.int .i32 0), (.int .i32 0), (.int .u8 0), (.int .u8 0), (.int .u8 0), (.int .i32 0), (.int .i32 0), (.int .i32 0), (.int .i32 0), (.int .u8 0), (.int .u8 0), (.int .u8 0), (.slice none 0 0), (.int .u16 0), (.int .u16 0), (.bool false)]⟩),
   (108, ⟨.arr 2 21, 2, 8, some [(.int .i32 0), (.int .i32 0)]⟩),
   (109, ⟨.arr 7 108, 14, 56, some [(.int .i32 0), (.int .i32 0), (.int .i32 0), (.int .i32 0), (.int .i32 0), (.int .i32 0), (.int .i32 0), (.int .i32 0), (.int .i32 0), (.int .i32 0), (.int .i32 0), (.int .i32 0), (.int .i32 0), (.int .i32 0)]⟩),
   (110, ⟨.arr 6 108, 12, 48, some [(.int .i32 0), (.int .i32 0), (.int .i32 0), (.int .i32 0), (.int .i32 0), (.int .i32 0), (.int .i32 0), (.int .i32 0), (.int .i32 0), (.int .i32 0), (.int .i32 0), (.int .i32 0)]⟩),
   (112, ⟨.slice 21, 1, 24, some [(.slice none 0 0)]⟩),
   (114, ⟨.slice 108, 1, 24, some [(.slice none 0 0)]⟩),
   (119, ⟨.arr 14 107, 280, 1344, none⟩),
   (120, ⟨.struct [(3, 0), (119, 1)], 281, 1352, some (([(.int .i64 0)] ++ repO 14 [(.int .u64 0), (.int .u64 0), (.int .i32 0), (.int .i32 0), (.int .i32 0), (.int .i32 0), (.int .u8 0), (.int .u8 0), (.int .u8 0), (.int .i32 0), (.int .i32 0), (.int .i32 0), (.int .i32 0), (.int .u8 0), (.int .u8 0), (.int .u8 0), (.slice none 0 0), (.int .u16 0), (.int .u16 0), (.bool false)]))⟩),
   (121, ⟨.struct [(3, 0), (119, 1)], 281, 1352, some (([(.int .i64 0)] ++ repO 14 [(.int .u64 0), (.int .u64 0), (.int .i32 0), (.int .i32 0), (.int .i32 0), (.int .i32 0), (.int .u8 0), (.int .u8 0), (.int .u8 0), (.int .i32 0), (.int .i32 0), (.int .i32 0), (.int .i32 0), (.int .u8 0), (.int .u8 0), (.int .u8 0), (.slice none 0 0), (.int .u16 0), (.int .u16 0), (.bool false)]))⟩),
   (132, ⟨.struct [(2, 0), (2, 1)], 2, 16, some [(.int .i64 0), (.int .i64 0)]⟩),
   (133, ⟨.struct [(2, 0), (2, 1)], 2, 16, some [(.int .i64 0), (.int .i64 0)]⟩),
   (134, ⟨.struct [(22, 0)], 1, 8, some [(.int .u64 0)]⟩),
   (135, ⟨.struct [(22, 0)], 1, 8, some [(.int .u64 0)]⟩),
   (145, ⟨.int .u64, 1, 8, some [(.int .u64 0)]⟩),
   (156, ⟨.int .u32, 1, 4, some [(.int .u32 0)]⟩),
   (160, ⟨.ptr 5, 1, 8, some [(.pointer none)]⟩)]

theorem tok2 : TOk Tryd.prog 2 ⟨.int .i64, 1, 8, some [(.int .i64 0)]⟩ := ⟨⟨_, Tryd.underlying2, rfl⟩, Tryd.sizeOf2, fun w => ⟨_, Tryd.typeInfo2 w, rfl⟩, fun z hz w => by cases hz; exact ⟨_, Tryd.zeroValue2 w, rfl⟩⟩
theorem tok3 : TOk Tryd.prog 3 ⟨.int .i64, 1, 8, some [(.int .i64 0)]⟩ := ⟨⟨_, Tryd.underlying3, rfl⟩, Tryd.sizeOf3, fun w => ⟨_, Tryd.typeInfo3 w, rfl⟩, fun z hz w => by cases hz; exact ⟨_, Tryd.zeroValue3 w, rfl⟩⟩
theorem tok4 : TOk Tryd.prog 4 ⟨.bool, 1, 1, some [(.bool false)]⟩ := ⟨⟨_, Tryd.underlying4, rfl⟩, Tryd.sizeOf4, fun w => ⟨_, Tryd.typeInfo4 w, rfl⟩, fun z hz w => by cases hz; exact ⟨_, Tryd.zeroValue4 w, rfl⟩⟩
theorem tok5 : TOk Tryd.prog 5 ⟨.int .u8, 1, 1, some [(.int .u8 0)]⟩ := ⟨⟨_, Tryd.underlying5, rfl⟩, Tryd.sizeOf5, fun w => ⟨_, Tryd.typeInfo5 w, rfl⟩, fun z hz w => by cases hz; exact ⟨_, Tryd.zeroValue5 w, rfl⟩⟩
theorem tok9 : TOk Tryd.prog 9 ⟨.str, 1, 16, some [(.string ByteArray.empty)]⟩ := ⟨⟨_, Tryd.underlying9, rfl⟩, Tryd.sizeOf9, fun w => ⟨_, Tryd.typeInfo9 w, rfl⟩, fun z hz w => by cases hz; exact ⟨_, Tryd.zeroValue9 w, rfl⟩⟩
theorem tok12 : TOk Tryd.prog 12 ⟨.int .u64, 1, 8, some [(.int .u64 0)]⟩ := ⟨⟨_, Tryd.underlying12, rfl⟩, Tryd.sizeOf12, fun w => ⟨_, Tryd.typeInfo12 w, rfl⟩, fun z hz w => by cases hz; exact ⟨_, Tryd.zeroValue12 w, rfl⟩⟩
theorem tok21 : TOk Tryd.prog 21 ⟨.int .i32, 1, 4, some [(.int .i32 0)]⟩ := ⟨⟨_, Tryd.underlying21, rfl⟩, Tryd.sizeOf21, fun w => ⟨_, Tryd.typeInfo21 w, rfl⟩, fun z hz w => by cases hz; exact ⟨_, Tryd.zeroValue21 w, rfl⟩⟩
theorem tok22 : TOk Tryd.prog 22 ⟨.int .u64, 1, 8, some [(.int .u64 0)]⟩ := ⟨⟨_, Tryd.underlying22, rfl⟩, Tryd.sizeOf22, fun w => ⟨_, Tryd.typeInfo22 w, rfl⟩, fun z hz w => by cases hz; exact ⟨_, Tryd.zeroValue22 w, rfl⟩⟩
theorem tok23 : TOk Tryd.prog 23 ⟨.slice 34, 1, 24, some [(.slice none 0 0)]⟩ := ⟨⟨_, Tryd.underlying23, rfl⟩, Tryd.sizeOf23, fun w => ⟨_, Tryd.typeInfo23 w, rfl⟩, fun z hz w => by cases hz; exact ⟨_, Tryd.zeroValue23 w, rfl⟩⟩
theorem tok24 : TOk Tryd.prog 24 ⟨.struct [(22, 0), (5, 1), (5, 2), (5, 3), (5, 4), (5, 5), (5, 6), (23, 7), (23, 8)], 9, 64, some [(.int .u64 0), (.int .u8 0), (.int .u8 0), (.int .u8 0), (.int .u8 0), (.int .u8 0), (.int .u8 0), (.slice none 0 0), (.slice none 0 0)]⟩ := ⟨⟨_, Tryd.underlying24, ⟨_, rfl, rfl⟩⟩, Tryd.sizeOf24, fun w => ⟨_, Tryd.typeInfo24 w, rfl⟩, fun z hz w => by cases hz; exact ⟨_, Tryd.zeroValue24 w, rfl⟩⟩
theorem tok25 : TOk Tryd.prog 25 ⟨.struct [(22, 0), (5, 1), (5, 2), (5, 3), (5, 4), (5, 5), (5, 6), (23, 7), (23, 8)], 9, 64, some [(.int .u64 0), (.int .u8 0), (.int .u8 0), (.int .u8 0), (.int .u8 0), (.int .u8 0), (.int .u8 0), (.slice none 0 0), (.slice none 0 0)]⟩ := ⟨⟨_, Tryd.underlying25, ⟨_, rfl, rfl⟩⟩, Tryd.sizeOf25, fun w => ⟨_, Tryd.typeInfo25 w, rfl⟩, fun z hz w => by cases hz; exact ⟨_, Tryd.zeroValue25 w, rfl⟩⟩
theorem tok27 : TOk Tryd.prog 27 ⟨.ptr 73, 1, 8, some [(.pointer none)]⟩ := ⟨⟨_, Tryd.underlying27, rfl⟩, Tryd.sizeOf27, fun w => ⟨_, Tryd.typeInfo27 w, rfl⟩, fun z hz w => by cases hz; exact ⟨_, Tryd.zeroValue27 w, rfl⟩⟩
theorem tok28 : TOk Tryd.prog 28 ⟨.ptr 68, 1, 8, some [(.pointer none)]⟩ := ⟨⟨_, Tryd.underlying28, rfl⟩, Tryd.sizeOf28, fun w => ⟨_, Tryd.typeInfo28 w, rfl⟩, fun z hz w => by cases hz; exact ⟨_, Tryd.zeroValue28 w, rfl⟩⟩
theorem tok32 : TOk Tryd.prog 32 ⟨.int .i64, 1, 8, some [(.int .i64 0)]⟩ := ⟨⟨_, Tryd.underlying32, rfl⟩, Tryd.sizeOf32, fun w => ⟨_, Tryd.typeInfo32 w, rfl⟩, fun z hz w => by cases hz; exact ⟨_, Tryd.zeroValue32 w, rfl⟩⟩
theorem tok34 : TOk Tryd.prog 34 ⟨.int .u8, 1, 1, some [(.int .u8 0)]⟩ := ⟨⟨_, Tryd.underlying34, rfl⟩, Tryd.sizeOf34, fun w => ⟨_, Tryd.typeInfo34 w, rfl⟩, fun z hz w => by cases hz; exact ⟨_, Tryd.zeroValue34 w, rfl⟩⟩
theorem tok35 : TOk Tryd.prog 35 ⟨.arr 2 34, 2, 2, some [(.int .u8 0), (.int .u8 0)]⟩ := ⟨⟨_, Tryd.underlying35, rfl⟩, Tryd.sizeOf35, fun w => ⟨_, Tryd.typeInfo35 w, rfl⟩, fun z hz w => by cases hz; exact ⟨_, Tryd.zeroValue35 w, rfl⟩⟩
theorem tok36 : TOk Tryd.prog 36 ⟨.arr 2 34, 2, 2, some [(.int .u8 0), (.int .u8 0)]⟩ := ⟨⟨_, Tryd.underlying36, rfl⟩, Tryd.sizeOf36, fun w => ⟨_, Tryd.typeInfo36 w, rfl⟩, fun z hz w => by cases hz; exact ⟨_, Tryd.zeroValue36 w, rfl⟩⟩
theorem tok41 : TOk Tryd.prog 41 ⟨.slice 36, 1, 24, some [(.slice none 0 0)]⟩ := ⟨⟨_, Tryd.underlying41, rfl⟩, Tryd.sizeOf41, fun w => ⟨_, Tryd.typeInfo41 w, rfl⟩, fun z hz w => by cases hz; exact ⟨_, Tryd.zeroValue41 w, rfl⟩⟩
theorem tok54 : TOk Tryd.prog 54 ⟨.struct [(21, 0), (21, 1), (21, 2), (21, 3), (5, 4), (5, 5), (5, 6)], 7, 20, some [(.int .i32 0), (.int .i32 0), (.int .i32 0), (.int .i32 0), (.int .u8 0), (.int .u8 0), (.int .u8 0)]⟩ := ⟨⟨_, Tryd.underlying54, ⟨_, rfl, rfl⟩⟩, Tryd.sizeOf54, fun w => ⟨_, Tryd.typeInfo54 w, rfl⟩, fun z hz w => by cases hz; exact ⟨_, Tryd.zeroValue54 w, rfl⟩⟩
theorem tok55 : TOk Tryd.prog 55 ⟨.struct [(21, 0), (21, 1), (21, 2), (21, 3), (5, 4), (5, 5), (5, 6)], 7, 20, some [(.int .i32 0), (.int .i32 0), (.int .i32 0), (.int .i32 0), (.int .u8 0), (.int .u8 0), (.int .u8 0)]⟩ := ⟨⟨_, Tryd.underlying55, ⟨_, rfl, rfl⟩⟩, Tryd.sizeOf55, fun w => ⟨_, Tryd.typeInfo55 w, rfl⟩, fun z hz w => by cases hz; exact ⟨_, Tryd.zeroValue55 w, rfl⟩⟩
theorem tok56 : TOk Tryd.prog 56 ⟨.arr 2 55, 14, 40, some [(.int .i32 0), (.int .i32 0), (.int .i32 0), (.int .i32 0), (.int .u8 0), (.int .u8 0), (.int .u8 0), (.int .i32 0), (.int .i32 0), (.int .i32 0), (.int .i32 0), (.int .u8 0), (.int .u8 0), (.int .u8 0)]⟩ := ⟨⟨_, Tryd.underlying56, rfl⟩, Tryd.sizeOf56, fun w => ⟨_, Tryd.typeInfo56 w, rfl⟩, fun z hz w => by cases hz; exact ⟨_, Tryd.zeroValue56 w, rfl⟩⟩
theorem tok57 : TOk Tryd.prog 57 ⟨.slice 92, 1, 24, some [(.slice none 0 0)]⟩ := ⟨⟨_, Tryd.underlying57, rfl⟩, Tryd.sizeOf57, fun w => ⟨_, Tryd.typeInfo57 w, rfl⟩, fun z hz w => by cases hz; exact ⟨_, Tryd.zeroValue57 w, rfl⟩⟩
theorem tok58 : TOk Tryd.prog 58 ⟨.int .u16, 1, 2, some [(.int .u16 0)]⟩ := ⟨⟨_, Tryd.underlying58, rfl⟩, Tryd.sizeOf58, fun w => ⟨_, Tryd.typeInfo58 w, rfl⟩, fun z hz w => by cases hz; exact ⟨_, Tryd.zeroValue58 w, rfl⟩⟩
theorem tok59 : TOk Tryd.prog 59 ⟨.arr 2 58, 2, 4, some [(.int .u16 0), (.int .u16 0)]⟩ := ⟨⟨_, Tryd.underlying59, rfl⟩, Tryd.sizeOf59, fun w => ⟨_, Tryd.typeInfo59 w, rfl⟩, fun z hz w => by cases hz; exact ⟨_, Tryd.zeroValue59 w, rfl⟩⟩
theorem tok60 : TOk Tryd.prog 60 ⟨.struct [(22, 0), (22, 1), (56, 2), (57, 16), (59, 17)], 19, 88, some [(.int .u64 0), (.int .u64 0), (.int .i32 0), (.int .i32 0), (.int .i32 0), (.int .i32 0), (.int .u8 0), (.int .u8 0), (.int .u8 0), (.int .i32 0), (.int .i32 0), (.int .i32 0), (.int .i32 0), (.int .u8 0), (.int .u8 0), (.int .u8 0), (.slice none 0 0), (.int .u16 0), (.int .u16 0)]⟩ := ⟨⟨_, Tryd.underlying60, ⟨_, rfl, rfl⟩⟩, Tryd.sizeOf60, fun w => ⟨_, Tryd.typeInfo60 w, rfl⟩, fun z hz w => by cases hz; exact ⟨_, Tryd.zeroValue60 w, rfl⟩⟩
theorem tok61 : TOk Tryd.prog 61 ⟨.struct [(22, 0), (22, 1), (56, 2), (57, 16), (59, 17)], 19, 88, some [(.int .u64 0), (.int .u64 0), (.int .i32 0), (.int .i32 0), (.int .i32 0), (.int .i32 0), (.int .u8 0), (.int .u8 0), (.int .u8 0), (.int .i32 0), (.int .i32 0), (.int .i32 0), (.int .i32 0), (.int .u8 0), (.int .u8 0), (.int .u8 0), (.slice none 0 0), (.int .u16 0), (.int .u16 0)]⟩ := ⟨⟨_, Tryd.underlying61, ⟨_, rfl, rfl⟩⟩, Tryd.sizeOf61, fun w => ⟨_, Tryd.typeInfo61 w, rfl⟩, fun z hz w => by cases hz; exact ⟨_, Tryd.zeroValue61 w, rfl⟩⟩
theorem tok66 : TOk Tryd.prog 66 ⟨.arr 256 36, 512, 512, none⟩ := ⟨⟨_, Tryd.underlying66, rfl⟩, Tryd.sizeOf66, fun w => ⟨_, Tryd.typeInfo66 w, rfl⟩, fun z hz w => by cases hz⟩
theorem tok67 : TOk Tryd.prog 67 ⟨.struct [(22, 0), (22, 1), (22, 2), (66, 3)], 515, 536, some (([(.int .u64 0), (.int .u64 0), (.int .u64 0)] ++ flat (e2 .u8) (Arr.rep 256 ((0 : Int), (0 : Int))).1))⟩ := ⟨⟨_, Tryd.underlying67, ⟨_, rfl, rfl⟩⟩, Tryd.sizeOf67, fun w => ⟨_, Tryd.typeInfo67 w, rfl⟩, fun z hz w => by cases hz; exact ⟨_, Tryd.zeroValue67 w, by kernel_rfl⟩⟩
theorem tok68 : TOk Tryd.prog 68 ⟨.struct [(22, 0), (22, 1), (22, 2), (66, 3)], 515, 536, some (([(.int .u64 0), (.int .u64 0), (.int .u64 0)] ++ flat (e2 .u8) (Arr.rep 256 ((0 : Int), (0 : Int))).1))⟩ := ⟨⟨_, Tryd.underlying68, ⟨_, rfl, rfl⟩⟩, Tryd.sizeOf68, fun w => ⟨_, Tryd.typeInfo68 w, rfl⟩, fun z hz w => by cases hz; exact ⟨_, Tryd.zeroValue68 w, by kernel_rfl⟩⟩
theorem tok70 : TOk Tryd.prog 70 ⟨.ptr 103, 1, 8, some [(.pointer none)]⟩ := ⟨⟨_, Tryd.underlying70, rfl⟩, Tryd.sizeOf70, fun w => ⟨_, Tryd.typeInfo70 w, rfl⟩, fun z hz w => by cases hz; exact ⟨_, Tryd.zeroValue70 w, rfl⟩⟩
theorem tok71 : TOk Tryd.prog 71 ⟨.ptr 121, 1, 8, some [(.pointer none)]⟩ := ⟨⟨_, Tryd.underlying71, rfl⟩, Tryd.sizeOf71, fun w => ⟨_, Tryd.typeInfo71 w, rfl⟩, fun z hz w => by cases hz; exact ⟨_, Tryd.zeroValue71 w, rfl⟩⟩
theorem tok72 : TOk Tryd.prog 72 ⟨.struct [(5, 0), (3, 1), (61, 2), (23, 21), (70, 22), (71, 23)], 24, 144, some [(.int .u8 0), (.int .i64 0), (.int .u64 0), (.int .u64 0), (.int .i32 0), (.int .i32 0), (.int .i32 0), (.int .i32 0), (.int .u8 0), (.int .u8 0), (.int .u8 0), (.int .i32 0), (.int .i32 0), (.int .i32 0), (.int .i32 0), (.int .u8 0), (.int .u8 0), (.int .u8 0), (.slice none 0 0), (.int .u16 0), (.int .u16 0), (.slice none 0 0), (.pointer none), (.pointer none)]⟩ := ⟨⟨_, Tryd.underlying72, ⟨_, rfl, rfl⟩⟩, Tryd.sizeOf72, fun w => ⟨_, Tryd.typeInfo72 w, rfl⟩, fun z hz w => by cases hz; exact ⟨_, Tryd.zeroValue72 w, rfl⟩⟩
theorem tok73 : TOk Tryd.prog 73 ⟨.struct [(5, 0), (3, 1), (61, 2), (23, 21), (70, 22), (71, 23)], 24, 144, some [(.int .u8 0), (.int .i64 0), (.int .u64 0), (.int .u64 0), (.int .i32 0), (.int .i32 0), (.int .i32 0), (.int .i32 0), (.int .u8 0), (.int .u8 0), (.int .u8 0), (.int .i32 0), (.int .i32 0), (.int .i32 0), (.int .i32 0), (.int .u8 0), (.int .u8 0), (.int .u8 0), (.slice none 0 0), (.int .u16 0), (.int .u16 0), (.slice none 0 0), (.pointer none), (.pointer none)]⟩ := ⟨⟨_, Tryd.underlying73, ⟨_, rfl, rfl⟩⟩, Tryd.sizeOf73, fun w => ⟨_, Tryd.typeInfo73 w, rfl⟩, fun z hz w => by cases hz; exact ⟨_, Tryd.zeroValue73 w, rfl⟩⟩
theorem tok90 : TOk Tryd.prog 90 ⟨.ptr 55, 1, 8, some [(.pointer none)]⟩ := ⟨⟨_, Tryd.underlying90, rfl⟩, Tryd.sizeOf90, fun w => ⟨_, Tryd.typeInfo90 w, rfl⟩, fun z hz w => by cases hz; exact ⟨_, Tryd.zeroValue90 w, rfl⟩⟩
theorem tok91 : TOk Tryd.prog 91 ⟨.struct [(21, 0), (21, 1), (21, 2), (21, 3), (5, 4), (5, 5)], 6, 20, some [(.int .i32 0), (.int .i32 0), (.int .i32 0), (.int .i32 0), (.int .u8 0), (.int .u8 0)]⟩ := ⟨⟨_, Tryd.underlying91, ⟨_, rfl, rfl⟩⟩, Tryd.sizeOf91, fun w => ⟨_, Tryd.typeInfo91 w, rfl⟩, fun z hz w => by cases hz; exact ⟨_, Tryd.zeroValue91 w, rfl⟩⟩
theorem tok92 : TOk Tryd.prog 92 ⟨.struct [(21, 0), (21, 1), (21, 2), (21, 3), (5, 4), (5, 5)], 6, 20, some [(.int .i32 0), (.int .i32 0), (.int .i32 0), (.int .i32 0), (.int .u8 0), (.int .u8 0)]⟩ := ⟨⟨_, Tryd.underlying92, ⟨_, rfl, rfl⟩⟩, Tryd.sizeOf92, fun w => ⟨_, Tryd.typeInfo92 w, rfl⟩, fun z hz w => by cases hz; exact ⟨_, Tryd.zeroValue92 w, rfl⟩⟩
theorem tok96 : TOk Tryd.prog 96 ⟨.struct [(21, 0), (21, 1), (21, 2), (21, 3)], 4, 16, some [(.int .i32 0), (.int .i32 0), (.int .i32 0), (.int .i32 0)]⟩ := ⟨⟨_, Tryd.underlying96, ⟨_, rfl, rfl⟩⟩, Tryd.sizeOf96, fun w => ⟨_, Tryd.typeInfo96 w, rfl⟩, fun z hz w => by cases hz; exact ⟨_, Tryd.zeroValue96 w, rfl⟩⟩
theorem tok97 : TOk Tryd.prog 97 ⟨.struct [(21, 0), (21, 1), (21, 2), (21, 3)], 4, 16, some [(.int .i32 0), (.int .i32 0), (.int .i32 0), (.int .i32 0)]⟩ := ⟨⟨_, Tryd.underlying97, ⟨_, rfl, rfl⟩⟩, Tryd.sizeOf97, fun w => ⟨_, Tryd.typeInfo97 w, rfl⟩, fun z hz w => by cases hz; exact ⟨_, Tryd.zeroValue97 w, rfl⟩⟩
theorem tok100 : TOk Tryd.prog 100 ⟨.ptr 61, 1, 8, some [(.pointer none)]⟩ := ⟨⟨_, Tryd.underlying100, rfl⟩, Tryd.sizeOf100, fun w => ⟨_, Tryd.typeInfo100 w, rfl⟩, fun z hz w => by cases hz; exact ⟨_, Tryd.zeroValue100 w, rfl⟩⟩
theorem tok102 : TOk Tryd.prog 102 ⟨.struct [(22, 0), (23, 1), (34, 2)], 3, 40, some [(.int .u64 0), (.slice none 0 0), (.int .u8 0)]⟩ := ⟨⟨_, Tryd.underlying102, ⟨_, rfl, rfl⟩⟩, Tryd.sizeOf102, fun w => ⟨_, Tryd.typeInfo102 w, rfl⟩, fun z hz w => by cases hz; exact ⟨_, Tryd.zeroValue102 w, rfl⟩⟩
theorem tok103 : TOk Tryd.prog 103 ⟨.struct [(22, 0), (23, 1), (34, 2)], 3, 40, some [(.int .u64 0), (.slice none 0 0), (.int .u8 0)]⟩ := ⟨⟨_, Tryd.underlying103, ⟨_, rfl, rfl⟩⟩, Tryd.sizeOf103, fun w => ⟨_, Tryd.typeInfo103 w, rfl⟩, fun z hz w => by cases hz; exact ⟨_, Tryd.zeroValue103 w, rfl⟩⟩
theorem tok104 : TOk Tryd.prog 104 ⟨.ptr 107, 1, 8, some [(.pointer none)]⟩ := ⟨⟨_, Tryd.underlying104, rfl⟩, Tryd.sizeOf104, fun w => ⟨_, Tryd.typeInfo104 w, rfl⟩, fun z hz w => by cases hz; exact ⟨_, Tryd.zeroValue104 w, rfl⟩⟩
theorem tok106 : TOk Tryd.prog 106 ⟨.struct [(61, 0), (4, 19)], 20, 96, some [(.int .u64 0), (.int .u64 0), (.int .i32 0), (.int .i32 0), (.int .i32 0), (.int .i32 0), (.int .u8 0), (.int .u8 0), (.int .u8 0), (.int .i32 0), (.int .i32 0), (.int .i32 0), (.int .i32 0), (.int .u8 0), (.int .u8 0), (.int .u8 0), (.slice none 0 0), (.int .u16 0), (.int .u16 0), (.bool false)]⟩ := ⟨⟨_, Tryd.underlying106, ⟨_, rfl, rfl⟩⟩, Tryd.sizeOf106, fun w => ⟨_, Tryd.typeInfo106 w, rfl⟩, fun z hz w => by cases hz; exact ⟨_, Tryd.zeroValue106 w, rfl⟩⟩
theorem tok107 : TOk Tryd.prog 107 ⟨.struct [(61, 0), (4, 19)], 20, 96, some [(.int .u64 0), (.int .u64 0), (.int .i32 0), (.int .i32 0), (.int .i32 0), (.int .i32 0), (.int .u8 0), (.int .u8 0), (.int .u8 0), (.int .i32 0), (.int .i32 0), (.int .i32 0), (.int .i32 0), (.int .u8 0), (.int .u8 0), (.int .u8 0), (.slice none 0 0), (.int .u16 0), (.int .u16 0), (.bool false)]⟩ := ⟨⟨_, Tryd.underlying107, ⟨_, rfl, rfl⟩⟩, Tryd.sizeOf107, fun w => ⟨_, Tryd.typeInfo107 w, rfl⟩, fun z hz w => by cases hz; exact ⟨_, Tryd.zeroValue107 w, rfl⟩⟩
theorem tok108 : TOk Tryd.prog 108 ⟨.arr 2 21, 2, 8, some [(.int .i32 0), (.int .i32 0)]⟩ := ⟨⟨_, Tryd.underlying108, rfl⟩, Tryd.sizeOf108, fun w => ⟨_, Tryd.typeInfo108 w, rfl⟩, fun z hz w => by cases hz; exact ⟨_, Tryd.zeroValue108 w, rfl⟩⟩
theorem tok109 : TOk Tryd.prog 109 ⟨.arr 7 108, 14, 56, some [(.int .i32 0), (.int .i32 0), (.int .i32 0), (.int .i32 0), (.int .i32 0), (.int .i32 0), (.int .i32 0), (.int .i32 0), (.int .i32 0), (.int .i32 0), (.int .i32 0), (.int .i32 0), (.int .i32 0), (.int .i32 0)]⟩ := ⟨⟨_, Tryd.underlying109, rfl⟩, Tryd.sizeOf109, fun w => ⟨_, Tryd.typeInfo109 w, rfl⟩, fun z hz w => by cases hz; exact ⟨_, Tryd.zeroValue109 w, rfl⟩⟩
theorem tok110 : TOk Tryd.prog 110 ⟨.arr 6 108, 12, 48, some [(.int .i32 0), (.int .i32 0), (.int .i32 0), (.int .i32 0), (.int .i32 0), (.int .i32 0), (.int .i32 0), (.int .i32 0), (.int .i32 0), (.int .i32 0), (.int .i32 0), (.int .i32 0)]⟩ := ⟨⟨_, Tryd.underlying110, rfl⟩, Tryd.sizeOf110, fun w => ⟨_, Tryd.typeInfo110 w, rfl⟩, fun z hz w => by cases hz; exact ⟨_, Tryd.zeroValue110 w, rfl⟩⟩
theorem tok112 : TOk Tryd.prog 112 ⟨.slice 21, 1, 24, some [(.slice none 0 0)]⟩ := ⟨⟨_, Tryd.underlying112, rfl⟩, Tryd.sizeOf112, fun w => ⟨_, Tryd.typeInfo112 w, rfl⟩, fun z hz w => by cases hz; exact ⟨_, Tryd.zeroValue112 w, rfl⟩⟩
theorem tok114 : TOk Tryd.prog 114 ⟨.slice 108, 1, 24, some [(.slice none 0 0)]⟩ := ⟨⟨_, Tryd.underlying114, rfl⟩, Tryd.sizeOf114, fun w => ⟨_, Tryd.typeInfo114 w, rfl⟩, fun z hz w => by cases hz; exact ⟨_, Tryd.zeroValue114 w, rfl⟩⟩
theorem tok119 : TOk Tryd.prog 119 ⟨.arr 14 107, 280, 1344, none⟩ := ⟨⟨_, Tryd.underlying119, rfl⟩, Tryd.sizeOf119, fun w => ⟨_, Tryd.typeInfo119 w, rfl⟩, fun z hz w => by cases hz⟩
theorem tok120 : TOk Tryd.prog 120 ⟨.struct [(3, 0), (119, 1)], 281, 1352, some (([(.int .i64 0)] ++ repO 14 [(.int .u64 0), (.int .u64 0), (.int .i32 0), (.int .i32 0), (.int .i32 0), (.int .i32 0), (.int .u8 0), (.int .u8 0), (.int .u8 0), (.int .i32 0), (.int .i32 0), (.int .i32 0), (.int .i32 0), (.int .u8 0), (.int .u8 0), (.int .u8 0), (.slice none 0 0), (.int .u16 0), (.int .u16 0), (.bool false)]))⟩ := ⟨⟨_, Tryd.underlying120, ⟨_, rfl, rfl⟩⟩, Tryd.sizeOf120, fun w => ⟨_, Tryd.typeInfo120 w, rfl⟩, fun z hz w => by cases hz; exact ⟨_, Tryd.zeroValue120 w, by kernel_rfl⟩⟩
theorem tok121 : TOk Tryd.prog 121 ⟨.struct [(3, 0), (119, 1)], 281, 1352, some (([(.int .i64 0)] ++ repO 14 [(.int .u64 0), (.int .u64 0), (.int .i32 0), (.int .i32 0), (.int .i32 0), (.int .i32 0), (.int .u8 0), (.int .u8 0), (.int .u8 0), (.int .i32 0), (.int .i32 0), (.int .i32 0), (.int .i32 0), (.int .u8 0), (.int .u8 0), (.int .u8 0), (.slice none 0 0), (.int .u16 0), (.int .u16 0), (.bool false)]))⟩ := ⟨⟨_, Tryd.underlying121, ⟨_, rfl, rfl⟩⟩, Tryd.sizeOf121, fun w => ⟨_, Tryd.typeInfo121 w, rfl⟩, fun z hz w => by cases hz; exact ⟨_, Tryd.zeroValue121 w, by kernel_rfl⟩⟩
theorem tok132 : TOk Tryd.prog 132 ⟨.struct [(2, 0), (2, 1)], 2, 16, some [(.int .i64 0), (.int .i64 0)]⟩ := ⟨⟨_, Tryd.underlying132, ⟨_, rfl, rfl⟩⟩, Tryd.sizeOf132, fun w => ⟨_, Tryd.typeInfo132 w, rfl⟩, fun z hz w => by cases hz; exact ⟨_, Tryd.zeroValue132 w, rfl⟩⟩
theorem tok133 : TOk Tryd.prog 133 ⟨.struct [(2, 0), (2, 1)], 2, 16, some [(.int .i64 0), (.int .i64 0)]⟩ := ⟨⟨_, Tryd.underlying133, ⟨_, rfl, rfl⟩⟩, Tryd.sizeOf133, fun w => ⟨_, Tryd.typeInfo133 w, rfl⟩, fun z hz w => by cases hz; exact ⟨_, Tryd.zeroValue133 w, rfl⟩⟩
theorem tok134 : TOk Tryd.prog 134 ⟨.struct [(22, 0)], 1, 8, some [(.int .u64 0)]⟩ := ⟨⟨_, Tryd.underlying134, ⟨_, rfl, rfl⟩⟩, Tryd.sizeOf134, fun w => ⟨_, Tryd.typeInfo134 w, rfl⟩, fun z hz w => by cases hz; exact ⟨_, Tryd.zeroValue134 w, rfl⟩⟩
theorem tok135 : TOk Tryd.prog 135 ⟨.struct [(22, 0)], 1, 8, some [(.int .u64 0)]⟩ := ⟨⟨_, Tryd.underlying135, ⟨_, rfl, rfl⟩⟩, Tryd.sizeOf135, fun w => ⟨_, Tryd.typeInfo135 w, rfl⟩, fun z hz w => by cases hz; exact ⟨_, Tryd.zeroValue135 w, rfl⟩⟩
theorem tok145 : TOk Tryd.prog 145 ⟨.int .u64, 1, 8, some [(.int .u64 0)]⟩ := ⟨⟨_, Tryd.underlying145, rfl⟩, Tryd.sizeOf145, fun w => ⟨_, Tryd.typeInfo145 w, rfl⟩, fun z hz w => by cases hz; exact ⟨_, Tryd.zeroValue145 w, rfl⟩⟩
theorem tok156 : TOk Tryd.prog 156 ⟨.int .u32, 1, 4, some [(.int .u32 0)]⟩ := ⟨⟨_, Tryd.underlying156, rfl⟩, Tryd.sizeOf156, fun w => ⟨_, Tryd.typeInfo156 w, rfl⟩, fun z hz w => by cases hz; exact ⟨_, Tryd.zeroValue156 w, rfl⟩⟩
theorem tok160 : TOk Tryd.prog 160 ⟨.ptr 5, 1, 8, some [(.pointer none)]⟩ := ⟨⟨_, Tryd.underlying160, rfl⟩, Tryd.sizeOf160, fun w => ⟨_, Tryd.typeInfo160 w, rfl⟩, fun z hz w => by cases hz; exact ⟨_, Tryd.zeroValue160 w, rfl⟩⟩
theorem ctt_ok : CTabOk Tryd.prog TT := by
  intro x hx
  simp only [TT, List.mem_cons, List.not_mem_nil, or_false] at hx
  rcases hx with rfl | rfl | rfl | rfl | rfl | rfl | rfl | rfl | rfl | rfl | rfl | rfl | rfl | rfl | rfl | rfl | rfl | rfl | rfl | rfl | rfl | rfl | rfl | rfl | rfl | rfl | rfl | rfl | rfl | rfl | rfl | rfl | rfl | rfl | rfl | rfl | rfl | rfl | rfl | rfl | rfl | rfl | rfl | rfl | rfl | rfl | rfl | rfl | rfl | rfl | rfl | rfl | rfl | rfl | rfl | rfl | rfl | rfl | rfl
  · exact ⟨by kernel_rfl, by kernel_rfl⟩
  · exact ⟨by kernel_rfl, by kernel_rfl⟩
  · exact ⟨by kernel_rfl, by kernel_rfl⟩
  · exact ⟨by kernel_rfl, by kernel_rfl⟩
  · exact ⟨by kernel_rfl, by kernel_rfl⟩
  · exact ⟨by kernel_rfl, by kernel_rfl⟩
  · exact ⟨by kernel_rfl, by kernel_rfl⟩
  · exact ⟨by kernel_rfl, by kernel_rfl⟩
  · exact ⟨by kernel_rfl, by kernel_rfl⟩
  · exact ⟨by kernel_rfl, by kernel_rfl⟩
  · exact ⟨by kernel_rfl, by kernel_rfl⟩
  · exact ⟨by kernel_rfl, by kernel_rfl⟩
  · exact ⟨by kernel_rfl, by kernel_rfl⟩
  · exact ⟨by kernel_rfl, by kernel_rfl⟩
  · exact ⟨by kernel_rfl, by kernel_rfl⟩
  · exact ⟨by kernel_rfl, by kernel_rfl⟩
  · exact ⟨by kernel_rfl, by kernel_rfl⟩
  · exact ⟨by kernel_rfl, by kernel_rfl⟩
  · exact ⟨by kernel_rfl, by kernel_rfl⟩
  · exact ⟨by kernel_rfl, by kernel_rfl⟩
  · exact ⟨by kernel_rfl, by kernel_rfl⟩
  · exact ⟨by kernel_rfl, by kernel_rfl⟩
  · exact ⟨by kernel_rfl, by kernel_rfl⟩
  · exact ⟨by kernel_rfl, by kernel_rfl⟩
  · exact ⟨by kernel_rfl, by kernel_rfl⟩
  · exact ⟨by kernel_rfl, by kernel_rfl⟩
  · exact ⟨by kernel_rfl, by kernel_rfl⟩
  · exact ⟨by kernel_rfl, by kernel_rfl⟩
  · exact ⟨by kernel_rfl, by kernel_rfl⟩
  · exact ⟨by kernel_rfl, by kernel_rfl⟩
  · exact ⟨by kernel_rfl, by kernel_rfl⟩
  · exact ⟨by kernel_rfl, by kernel_rfl⟩
  · exact ⟨by kernel_rfl, by kernel_rfl⟩
  · exact ⟨by kernel_rfl, by kernel_rfl⟩
  · exact ⟨by kernel_rfl, by kernel_rfl⟩
  · exact ⟨by kernel_rfl, by kernel_rfl⟩
  · exact ⟨by kernel_rfl, by kernel_rfl⟩
  · exact ⟨by kernel_rfl, by kernel_rfl⟩
  · exact ⟨by kernel_rfl, by kernel_rfl⟩
  · exact ⟨by kernel_rfl, by kernel_rfl⟩
  · exact ⟨by kernel_rfl, by kernel_rfl⟩
  · exact ⟨by kernel_rfl, by kernel_rfl⟩
  · exact ⟨by kernel_rfl, by kernel_rfl⟩
  · exact ⟨by kernel_rfl, by kernel_rfl⟩
  · exact ⟨by kernel_rfl, by kernel_rfl⟩
  · exact ⟨by kernel_rfl, by kernel_rfl⟩
  · exact ⟨by kernel_rfl, by kernel_rfl⟩
  · exact ⟨by kernel_rfl, by kernel_rfl⟩
  · exact ⟨by kernel_rfl, by kernel_rfl⟩
  · exact ⟨by kernel_rfl, by kernel_rfl⟩
  · exact ⟨by kernel_rfl, by kernel_rfl⟩
  · exact ⟨by kernel_rfl, by kernel_rfl⟩
  · exact ⟨by kernel_rfl, by kernel_rfl⟩
  · exact ⟨by kernel_rfl, by kernel_rfl⟩
  · exact ⟨by kernel_rfl, by kernel_rfl⟩
  · exact ⟨by kernel_rfl, by kernel_rfl⟩
  · exact ⟨by kernel_rfl, by kernel_rfl⟩
  · exact ⟨by kernel_rfl, by kernel_rfl⟩
  · exact ⟨by kernel_rfl, by kernel_rfl⟩
theorem tt_closed : structsIn TT TT = true := by kernel_rfl
theorem tt_ok : TabOk Tryd.prog TT := by
  intro x hx
  simp only [TT, List.mem_cons, List.not_mem_nil, or_false] at hx
  rcases hx with rfl | rfl | rfl | rfl | rfl | rfl | rfl | rfl | rfl | rfl | rfl | rfl | rfl | rfl | rfl | rfl | rfl | rfl | rfl | rfl | rfl | rfl | rfl | rfl | rfl | rfl | rfl | rfl | rfl | rfl | rfl | rfl | rfl | rfl | rfl | rfl | rfl | rfl | rfl | rfl | rfl | rfl | rfl | rfl | rfl | rfl | rfl | rfl | rfl | rfl | rfl | rfl | rfl | rfl | rfl | rfl | rfl | rfl | rfl
  · exact tok2
  · exact tok3
  · exact tok4
  · exact tok5
  · exact tok9
  · exact tok12
  · exact tok21
  · exact tok22
  · exact tok23
  · exact tok24
  · exact tok25
  · exact tok27
  · exact tok28
  · exact tok32
  · exact tok34
  · exact tok35
  · exact tok36
  · exact tok41
  · exact tok54
  · exact tok55
  · exact tok56
  · exact tok57
  · exact tok58
  · exact tok59
  · exact tok60
  · exact tok61
  · exact tok66
  · exact tok67
  · exact tok68
  · exact tok70
  · exact tok71
  · exact tok72
  · exact tok73
  · exact tok90
  · exact tok91
  · exact tok92
  · exact tok96
  · exact tok97
  · exact tok100
  · exact tok102
  · exact tok103
  · exact tok104
  · exact tok106
  · exact tok107
  · exact tok108
  · exact tok109
  · exact tok110
  · exact tok112
  · exact tok114
  · exact tok119
  · exact tok120
  · exact tok121
  · exact tok132
  · exact tok133
  · exact tok134
  · exact tok135
  · exact tok145
  · exact tok156
  · exact tok160
theorem tt_eq : eqOkB Tryd.prog TT = true := by kernel_rfl
theorem tt_one : oneB TT = true := by kernel_rfl


theorem wP {ops : Array Oper} {Q : Exit → Act → World → Prop} {w0 : World} {A : List Nat} {n : Nat} {rest : List Oper} {E : List (Nat × Value)} {L : List Blk} {d : Nat} {op : Op} {ty : TypeId} {pos : String} {aft : Array Edge} {v : Value} (h : stepV TT E op = some v) (hd : Nat.blt d n = true) (k : WL Tryd.prog ops Q w0 A n rest ((d, v) :: E) L) :
    WL Tryd.prog ops Q w0 A n (⟨some d, op, ty, pos, aft, none⟩ :: rest) E L := wl_pure tt_ok h hd k
theorem qP {ops : Array Oper} {Q : Exit → Act → World → Prop} {w0 : World} {A : List Nat} {n : Nat} {rest : List Oper} {E : List (Nat × Value)} {L : List Blk} {d : Nat} {op : Op} {ty : TypeId} {pos : String} {aft : Array Edge} {v : Value} (h : stepV TT E op = some v) (hd : Nat.blt d n = true) (k : WQ Tryd.prog ops Q w0 A n rest ((d, v) :: E) L) :
    WQ Tryd.prog ops Q w0 A n (⟨some d, op, ty, pos, aft, none⟩ :: rest) E L := wq_pure tt_ok h hd k

end Go.Proofs.YtkdbpenjkcjimaaDoor
