/- The program's types in a table of the engine's kind, each row proved against the program. -/
import Derived.Test.YtkekgagekgadmaaDoorProg
import Derived.Test.YtkekgagekgadmaaDoorEng2
import Derived.KernelRfl
namespace Go.Proofs.YtkekgagekgadmaaDoor
open Go.Proofs.YtkekgagekgadmaaDoor.Eng Go.RowKit

def TT : List (Nat × TI) :=
  [(2, ⟨.int .i64, 1, 8, some [(.int .i64 0)]⟩),
   (3, ⟨.int .i64, 1, 8, some [(.int .i64 0)]⟩),
   (4, ⟨.bool, 1, 1, some [(.bool false)]⟩),
   (5, ⟨.int .u8, 1, 1, some [(.int .u8 0)]⟩),
   (9, ⟨.str, 1, 16, some [(.string ByteArray.empty)]⟩),
   (12, ⟨.int .u64, 1, 8, some [(.int .u64 0)]⟩),
   (21, ⟨.int .i32, 1, 4, some [(.int .i32 0)]⟩),
   (22, ⟨.int .u64, 1, 8, some [(.int .u64 0)]⟩),
   (23, ⟨.slice 40, 1, 24, some [(.slice none 0 0)]⟩),
   (24, ⟨.struct [(22, 0), (5, 1), (5, 2), (23, 3), (23, 4)], 5, 64, some [(.int .u64 0), (.int .u8 0), (.int .u8 0), (.slice none 0 0), (.slice none 0 0)]⟩),
   (25, ⟨.struct [(22, 0), (5, 1), (5, 2), (23, 3), (23, 4)], 5, 64, some [(.int .u64 0), (.int .u8 0), (.int .u8 0), (.slice none 0 0), (.slice none 0 0)]⟩),
   (27, ⟨.ptr 55, 1, 8, some [(.pointer none)]⟩),
   (29, ⟨.struct [(21, 0), (21, 1), (21, 2), (21, 3), (5, 4), (5, 5), (5, 6)], 7, 20, some [(.int .i32 0), (.int .i32 0), (.int .i32 0), (.int .i32 0), (.int .u8 0), (.int .u8 0), (.int .u8 0)]⟩),
   (30, ⟨.struct [(21, 0), (21, 1), (21, 2), (21, 3), (5, 4), (5, 5), (5, 6)], 7, 20, some [(.int .i32 0), (.int .i32 0), (.int .i32 0), (.int .i32 0), (.int .u8 0), (.int .u8 0), (.int .u8 0)]⟩),
   (31, ⟨.arr 2 30, 14, 40, some [(.int .i32 0), (.int .i32 0), (.int .i32 0), (.int .i32 0), (.int .u8 0), (.int .u8 0), (.int .u8 0), (.int .i32 0), (.int .i32 0), (.int .i32 0), (.int .i32 0), (.int .u8 0), (.int .u8 0), (.int .u8 0)]⟩),
   (32, ⟨.slice 80, 1, 24, some [(.slice none 0 0)]⟩),
   (33, ⟨.int .u16, 1, 2, some [(.int .u16 0)]⟩),
   (34, ⟨.arr 2 33, 2, 4, some [(.int .u16 0), (.int .u16 0)]⟩),
   (35, ⟨.struct [(22, 0), (22, 1), (31, 2), (32, 16), (34, 17)], 19, 88, some [(.int .u64 0), (.int .u64 0), (.int .i32 0), (.int .i32 0), (.int .i32 0), (.int .i32 0), (.int .u8 0), (.int .u8 0), (.int .u8 0), (.int .i32 0), (.int .i32 0), (.int .i32 0), (.int .i32 0), (.int .u8 0), (.int .u8 0), (.int .u8 0), (.slice none 0 0), (.int .u16 0), (.int .u16 0)]⟩),
   (36, ⟨.struct [(22, 0), (22, 1), (31, 2), (32, 16), (34, 17)], 19, 88, some [(.int .u64 0), (.int .u64 0), (.int .i32 0), (.int .i32 0), (.int .i32 0), (.int .i32 0), (.int .u8 0), (.int .u8 0), (.int .u8 0), (.int .i32 0), (.int .i32 0), (.int .i32 0), (.int .i32 0), (.int .u8 0), (.int .u8 0), (.int .u8 0), (.slice none 0 0), (.int .u16 0), (.int .u16 0)]⟩),
   (38, ⟨.int .i64, 1, 8, some [(.int .i64 0)]⟩),
   (40, ⟨.int .u8, 1, 1, some [(.int .u8 0)]⟩),
   (44, ⟨.arr 2 40, 2, 2, some [(.int .u8 0), (.int .u8 0)]⟩),
   (45, ⟨.arr 2 40, 2, 2, some [(.int .u8 0), (.int .u8 0)]⟩),
   (52, ⟨.ptr 94, 1, 8, some [(.pointer none)]⟩),
   (53, ⟨.ptr 99, 1, 8, some [(.pointer none)]⟩),
   (54, ⟨.struct [(5, 0), (3, 1), (36, 2), (23, 21), (52, 22), (53, 23)], 24, 144, some [(.int .u8 0), (.int .i64 0), (.int .u64 0), (.int .u64 0), (.int .i32 0), (.int .i32 0), (.int .i32 0), (.int .i32 0), (.int .u8 0), (.int .u8 0), (.int .u8 0), (.int .i32 0), (.int .i32 0), (.int .i32 0), (.int .i32 0), (.int .u8 0), (.int .u8 0), (.int .u8 0), (.slice none 0 0), (.int .u16 0), (.int .u16 0), (.slice none 0 0), (.pointer none), (.pointer none)]⟩),
   (55, ⟨.struct [(5, 0), (3, 1), (36, 2), (23, 21), (52, 22), (53, 23)], 24, 144, some [(.int .u8 0), (.int .i64 0), (.int .u64 0), (.int .u64 0), (.int .i32 0), (.int .i32 0), (.int .i32 0), (.int .i32 0), (.int .u8 0), (.int .u8 0), (.int .u8 0), (.int .i32 0), (.int .i32 0), (.int .i32 0), (.int .i32 0), (.int .u8 0), (.int .u8 0), (.int .u8 0), (.slice none 0 0), (.int .u16 0), (.int .u16 0), (.slice none 0 0), (.pointer none), (.pointer none)]⟩),
   (57, ⟨.slice 5, 1, 24, some [(.slice none 0 0)]⟩),
   (61, ⟨.slice 45, 1, 24, some [(.slice none 0 0)]⟩),
   (79, ⟨.struct [(21, 0), (21, 1), (21, 2), (21, 3), (5, 4), (5, 5)], 6, 20, some [(.int .i32 0), (.int .i32 0), (.int .i32 0), (.int .i32 0), (.int .u8 0), (.int .u8 0)]⟩),
   (80, ⟨.struct [(21, 0), (21, 1), (21, 2), (21, 3), (5, 4), (5, 5)], 6, 20, some [(.int .i32 0), (.int .i32 0), (.int .i32 0), (.int .i32 0), (.int .u8 0), (.int .u8 0)]⟩),
   (82, ⟨.arr 2 21, 2, 8, some [(.int .i32 0), (.int .i32 0)]⟩),
   (83, ⟨.arr 7 82, 14, 56, some [(.int .i32 0), (.int .i32 0), (.int .i32 0), (.int .i32 0), (.int .i32 0), (.int .i32 0), (.int .i32 0), (.int .i32 0), (.int .i32 0), (.int .i32 0), (.int .i32 0), (.int .i32 0), (.int .i32 0), (.int .i32 0)]⟩),
   (84, ⟨.arr 6 82, 12, 48, some [(.int .i32 0), (.int .i32 0), (.int .i32 0), (.int .i32 0), (.int .i32 0), (.int .i32 0), (.int .i32 0), (.int .i32 0), (.int .i32 0), (.int .i32 0), (.int .i32 0), (.int .i32 0)]⟩),
   (86, ⟨.slice 21, 1, 24, some [(.slice none 0 0)]⟩),
   (88, ⟨.slice 82, 1, 24, some [(.slice none 0 0)]⟩),
   (93, ⟨.struct [(22, 0), (23, 1), (40, 2)], 3, 40, some [(.int .u64 0), (.slice none 0 0), (.int .u8 0)]⟩),
   (94, ⟨.struct [(22, 0), (23, 1), (40, 2)], 3, 40, some [(.int .u64 0), (.slice none 0 0), (.int .u8 0)]⟩),
   (95, ⟨.struct [(36, 0), (4, 19)], 20, 96, some [(.int .u64 0), (.int .u64 0), (.int .i32 0), (.int .i32 0), (.int .i32 0), (.int .i32 0), (.int .u8 0), (.int .u8 0), (.int .u8 0), (.int .i32 0), (.int .i32 0), (.int .i32 0), (.int .i32 0), (.int .u8 0), (.int .u8 0), (.int .u8 0), (.slice none 0 0), (.int .u16 0), (.int .u16 0), (.bool false)]⟩),
   (96, ⟨.struct [(36, 0), (4, 19)], 20, 96, some [(.int .u64 0), (.int .u64 0), (.int .i32 0), (.int .i32 0), (.int .i32 0), (.int .i32 0), (.int .u8 0), (.int .u8 0), (.int .u8 0), (.int .i32 0), (.int .i32 0), (.int .i32 0), (.int .i32 0), (.int .u8 0), (.int .u8 0), (.int .u8 0), (.slice none 0 0), (.int .u16 0), (.int .u16 0), (.bool false)]⟩),
   (97, ⟨.arr 14 96, 280, 1344, none⟩),
   (98, ⟨.struct [(3, 0), (97, 1)], 281, 1352, some (([(.int .i64 0)] ++ repO 14 [(.int .u64 0), (.int .u64 0), (.int .i32 0), (.int .i32 0), (.int .i32 0), (.int .i32 0), (.int .u8 0), (.int .u8 0), (.int .u8 0), (.int .i32 0), (.int .i32 0), (.int .i32 0), (.int .i32 0), (.int .u8 0), (.int .u8 0), (.int .u8 0), (.slice none 0 0), (.int .u16 0), (.int .u16 0), (.bool false)]))⟩),
   (99, ⟨.struct [(3, 0), (97, 1)], 281, 1352, some (([(.int .i64 0)] ++ repO 14 [(.int .u64 0), (.int .u64 0), (.int .i32 0), (.int .i32 0), (.int .i32 0), (.int .i32 0), (.int .u8 0), (.int .u8 0), (.int .u8 0), (.int .i32 0), (.int .i32 0), (.int .i32 0), (.int .i32 0), (.int .u8 0), (.int .u8 0), (.int .u8 0), (.slice none 0 0), (.int .u16 0), (.int .u16 0), (.bool false)]))⟩),
   (100, ⟨.ptr 96, 1, 8, some [(.pointer none)]⟩),
   (102, ⟨.slice 96, 1, 24, some [(.slice none 0 0)]⟩),
   (106, ⟨.ptr 30, 1, 8, some [(.pointer none)]⟩),
   (110, ⟨.struct [(21, 0), (21, 1), (21, 2), (21, 3)], 4, 16, some [(.int .i32 0), (.int .i32 0), (.int .i32 0), (.int .i32 0)]⟩),
   (111, ⟨.struct [(21, 0), (21, 1), (21, 2), (21, 3)], 4, 16, some [(.int .i32 0), (.int .i32 0), (.int .i32 0), (.int .i32 0)]⟩),
   (114, ⟨.ptr 36, 1, 8, some [(.pointer none)]⟩),
   (126, ⟨.struct [(2, 0), (2, 1)], 2, 16, some [(.int .i64 0), (.int .i64 0)]⟩),
   (127, ⟨.struct [(2, 0), (2, 1)], 2, 16, some [(.int .i64 0), (.int .i64 0)]⟩),
   (128, ⟨.struct [(22, 0)], 1, 8, some [(.int .u64 0)]⟩),
   (129, ⟨.struct [(22, 0)], 1, 8, some [(.int .u64 0)]⟩),
   (137, ⟨.int .u64, 1, 8, some [(.int .u64 0)]⟩),
   (148, ⟨.int .u32, 1, 4, some [(.int .u32 0)]⟩),
   (152, ⟨.ptr 5, 1, 8, some [(.pointer none)]⟩)]

theorem tok2 : TOk Tryd.prog 2 ⟨.int .i64, 1, 8, some [(.int .i64 0)]⟩ := ⟨⟨_, Tryd.underlying2, rfl⟩, Tryd.sizeOf2, fun w => ⟨_, Tryd.typeInfo2 w, rfl⟩, fun z hz w => by cases hz; exact ⟨_, Tryd.zeroValue2 w, rfl⟩⟩
theorem tok3 : TOk Tryd.prog 3 ⟨.int .i64, 1, 8, some [(.int .i64 0)]⟩ := ⟨⟨_, Tryd.underlying3, rfl⟩, Tryd.sizeOf3, fun w => ⟨_, Tryd.typeInfo3 w, rfl⟩, fun z hz w => by cases hz; exact ⟨_, Tryd.zeroValue3 w, rfl⟩⟩
theorem tok4 : TOk Tryd.prog 4 ⟨.bool, 1, 1, some [(.bool false)]⟩ := ⟨⟨_, Tryd.underlying4, rfl⟩, Tryd.sizeOf4, fun w => ⟨_, Tryd.typeInfo4 w, rfl⟩, fun z hz w => by cases hz; exact ⟨_, Tryd.zeroValue4 w, rfl⟩⟩
theorem tok5 : TOk Tryd.prog 5 ⟨.int .u8, 1, 1, some [(.int .u8 0)]⟩ := ⟨⟨_, Tryd.underlying5, rfl⟩, Tryd.sizeOf5, fun w => ⟨_, Tryd.typeInfo5 w, rfl⟩, fun z hz w => by cases hz; exact ⟨_, Tryd.zeroValue5 w, rfl⟩⟩
theorem tok9 : TOk Tryd.prog 9 ⟨.str, 1, 16, some [(.string ByteArray.empty)]⟩ := ⟨⟨_, Tryd.underlying9, rfl⟩, Tryd.sizeOf9, fun w => ⟨_, Tryd.typeInfo9 w, rfl⟩, fun z hz w => by cases hz; exact ⟨_, Tryd.zeroValue9 w, rfl⟩⟩
theorem tok12 : TOk Tryd.prog 12 ⟨.int .u64, 1, 8, some [(.int .u64 0)]⟩ := ⟨⟨_, Tryd.underlying12, rfl⟩, Tryd.sizeOf12, fun w => ⟨_, Tryd.typeInfo12 w, rfl⟩, fun z hz w => by cases hz; exact ⟨_, Tryd.zeroValue12 w, rfl⟩⟩
theorem tok21 : TOk Tryd.prog 21 ⟨.int .i32, 1, 4, some [(.int .i32 0)]⟩ := ⟨⟨_, Tryd.underlying21, rfl⟩, Tryd.sizeOf21, fun w => ⟨_, Tryd.typeInfo21 w, rfl⟩, fun z hz w => by cases hz; exact ⟨_, Tryd.zeroValue21 w, rfl⟩⟩
theorem tok22 : TOk Tryd.prog 22 ⟨.int .u64, 1, 8, some [(.int .u64 0)]⟩ := ⟨⟨_, Tryd.underlying22, rfl⟩, Tryd.sizeOf22, fun w => ⟨_, Tryd.typeInfo22 w, rfl⟩, fun z hz w => by cases hz; exact ⟨_, Tryd.zeroValue22 w, rfl⟩⟩
theorem tok23 : TOk Tryd.prog 23 ⟨.slice 40, 1, 24, some [(.slice none 0 0)]⟩ := ⟨⟨_, Tryd.underlying23, rfl⟩, Tryd.sizeOf23, fun w => ⟨_, Tryd.typeInfo23 w, rfl⟩, fun z hz w => by cases hz; exact ⟨_, Tryd.zeroValue23 w, rfl⟩⟩
theorem tok24 : TOk Tryd.prog 24 ⟨.struct [(22, 0), (5, 1), (5, 2), (23, 3), (23, 4)], 5, 64, some [(.int .u64 0), (.int .u8 0), (.int .u8 0), (.slice none 0 0), (.slice none 0 0)]⟩ := ⟨⟨_, Tryd.underlying24, ⟨_, rfl, rfl⟩⟩, Tryd.sizeOf24, fun w => ⟨_, Tryd.typeInfo24 w, rfl⟩, fun z hz w => by cases hz; exact ⟨_, Tryd.zeroValue24 w, rfl⟩⟩
theorem tok25 : TOk Tryd.prog 25 ⟨.struct [(22, 0), (5, 1), (5, 2), (23, 3), (23, 4)], 5, 64, some [(.int .u64 0), (.int .u8 0), (.int .u8 0), (.slice none 0 0), (.slice none 0 0)]⟩ := ⟨⟨_, Tryd.underlying25, ⟨_, rfl, rfl⟩⟩, Tryd.sizeOf25, fun w => ⟨_, Tryd.typeInfo25 w, rfl⟩, fun z hz w => by cases hz; exact ⟨_, Tryd.zeroValue25 w, rfl⟩⟩
theorem tok27 : TOk Tryd.prog 27 ⟨.ptr 55, 1, 8, some [(.pointer none)]⟩ := ⟨⟨_, Tryd.underlying27, rfl⟩, Tryd.sizeOf27, fun w => ⟨_, Tryd.typeInfo27 w, rfl⟩, fun z hz w => by cases hz; exact ⟨_, Tryd.zeroValue27 w, rfl⟩⟩
theorem tok29 : TOk Tryd.prog 29 ⟨.struct [(21, 0), (21, 1), (21, 2), (21, 3), (5, 4), (5, 5), (5, 6)], 7, 20, some [(.int .i32 0), (.int .i32 0), (.int .i32 0), (.int .i32 0), (.int .u8 0), (.int .u8 0), (.int .u8 0)]⟩ := ⟨⟨_, Tryd.underlying29, ⟨_, rfl, rfl⟩⟩, Tryd.sizeOf29, fun w => ⟨_, Tryd.typeInfo29 w, rfl⟩, fun z hz w => by cases hz; exact ⟨_, Tryd.zeroValue29 w, rfl⟩⟩
theorem tok30 : TOk Tryd.prog 30 ⟨.struct [(21, 0), (21, 1), (21, 2), (21, 3), (5, 4), (5, 5), (5, 6)], 7, 20, some [(.int .i32 0), (.int .i32 0), (.int .i32 0), (.int .i32 0), (.int .u8 0), (.int .u8 0), (.int .u8 0)]⟩ := ⟨⟨_, Tryd.underlying30, ⟨_, rfl, rfl⟩⟩, Tryd.sizeOf30, fun w => ⟨_, Tryd.typeInfo30 w, rfl⟩, fun z hz w => by cases hz; exact ⟨_, Tryd.zeroValue30 w, rfl⟩⟩
theorem tok31 : TOk Tryd.prog 31 ⟨.arr 2 30, 14, 40, some [(.int .i32 0), (.int .i32 0), (.int .i32 0), (.int .i32 0), (.int .u8 0), (.int .u8 0), (.int .u8 0), (.int .i32 0), (.int .i32 0), (.int .i32 0), (.int .i32 0), (.int .u8 0), (.int .u8 0), (.int .u8 0)]⟩ := ⟨⟨_, Tryd.underlying31, rfl⟩, Tryd.sizeOf31, fun w => ⟨_, Tryd.typeInfo31 w, rfl⟩, fun z hz w => by cases hz; exact ⟨_, Tryd.zeroValue31 w, rfl⟩⟩
theorem tok32 : TOk Tryd.prog 32 ⟨.slice 80, 1, 24, some [(.slice none 0 0)]⟩ := ⟨⟨_, Tryd.underlying32, rfl⟩, Tryd.sizeOf32, fun w => ⟨_, Tryd.typeInfo32 w, rfl⟩, fun z hz w => by cases hz; exact ⟨_, Tryd.zeroValue32 w, rfl⟩⟩
theorem tok33 : TOk Tryd.prog 33 ⟨.int .u16, 1, 2, some [(.int .u16 0)]⟩ := ⟨⟨_, Tryd.underlying33, rfl⟩, Tryd.sizeOf33, fun w => ⟨_, Tryd.typeInfo33 w, rfl⟩, fun z hz w => by cases hz; exact ⟨_, Tryd.zeroValue33 w, rfl⟩⟩
theorem tok34 : TOk Tryd.prog 34 ⟨.arr 2 33, 2, 4, some [(.int .u16 0), (.int .u16 0)]⟩ := ⟨⟨_, Tryd.underlying34, rfl⟩, Tryd.sizeOf34, fun w => ⟨_, Tryd.typeInfo34 w, rfl⟩, fun z hz w => by cases hz; exact ⟨_, Tryd.zeroValue34 w, rfl⟩⟩
theorem tok35 : TOk Tryd.prog 35 ⟨.struct [(22, 0), (22, 1), (31, 2), (32, 16), (34, 17)], 19, 88, some [(.int .u64 0), (.int .u64 0), (.int .i32 0), (.int .i32 0), (.int .i32 0), (.int .i32 0), (.int .u8 0), (.int .u8 0), (.int .u8 0), (.int .i32 0), (.int .i32 0), (.int .i32 0), (.int .i32 0), (.int .u8 0), (.int .u8 0), (.int .u8 0), (.slice none 0 0), (.int .u16 0), (.int .u16 0)]⟩ := ⟨⟨_, Tryd.underlying35, ⟨_, rfl, rfl⟩⟩, Tryd.sizeOf35, fun w => ⟨_, Tryd.typeInfo35 w, rfl⟩, fun z hz w => by cases hz; exact ⟨_, Tryd.zeroValue35 w, rfl⟩⟩
theorem tok36 : TOk Tryd.prog 36 ⟨.struct [(22, 0), (22, 1), (31, 2), (32, 16), (34, 17)], 19, 88, some [(.int .u64 0), (.int .u64 0), (.int .i32 0), (.int .i32 0), (.int .i32 0), (.int .i32 0), (.int .u8 0), (.int .u8 0), (.int .u8 0), (.int .i32 0), (.int .i32 0), (.int .i32 0), (.int .i32 0), (.int .u8 0), (.int .u8 0), (.int .u8 0), (.slice none 0 0), (.int .u16 0), (.int .u16 0)]⟩ := ⟨⟨_, Tryd.underlying36, ⟨_, rfl, rfl⟩⟩, Tryd.sizeOf36, fun w => ⟨_, Tryd.typeInfo36 w, rfl⟩, fun z hz w => by cases hz; exact ⟨_, Tryd.zeroValue36 w, rfl⟩⟩
theorem tok38 : TOk Tryd.prog 38 ⟨.int .i64, 1, 8, some [(.int .i64 0)]⟩ := ⟨⟨_, Tryd.underlying38, rfl⟩, Tryd.sizeOf38, fun w => ⟨_, Tryd.typeInfo38 w, rfl⟩, fun z hz w => by cases hz; exact ⟨_, Tryd.zeroValue38 w, rfl⟩⟩
theorem tok40 : TOk Tryd.prog 40 ⟨.int .u8, 1, 1, some [(.int .u8 0)]⟩ := ⟨⟨_, Tryd.underlying40, rfl⟩, Tryd.sizeOf40, fun w => ⟨_, Tryd.typeInfo40 w, rfl⟩, fun z hz w => by cases hz; exact ⟨_, Tryd.zeroValue40 w, rfl⟩⟩
theorem tok44 : TOk Tryd.prog 44 ⟨.arr 2 40, 2, 2, some [(.int .u8 0), (.int .u8 0)]⟩ := ⟨⟨_, Tryd.underlying44, rfl⟩, Tryd.sizeOf44, fun w => ⟨_, Tryd.typeInfo44 w, rfl⟩, fun z hz w => by cases hz; exact ⟨_, Tryd.zeroValue44 w, rfl⟩⟩
theorem tok45 : TOk Tryd.prog 45 ⟨.arr 2 40, 2, 2, some [(.int .u8 0), (.int .u8 0)]⟩ := ⟨⟨_, Tryd.underlying45, rfl⟩, Tryd.sizeOf45, fun w => ⟨_, Tryd.typeInfo45 w, rfl⟩, fun z hz w => by cases hz; exact ⟨_, Tryd.zeroValue45 w, rfl⟩⟩
theorem tok52 : TOk Tryd.prog 52 ⟨.ptr 94, 1, 8, some [(.pointer none)]⟩ := ⟨⟨_, Tryd.underlying52, rfl⟩, Tryd.sizeOf52, fun w => ⟨_, Tryd.typeInfo52 w, rfl⟩, fun z hz w => by cases hz; exact ⟨_, Tryd.zeroValue52 w, rfl⟩⟩
theorem tok53 : TOk Tryd.prog 53 ⟨.ptr 99, 1, 8, some [(.pointer none)]⟩ := ⟨⟨_, Tryd.underlying53, rfl⟩, Tryd.sizeOf53, fun w => ⟨_, Tryd.typeInfo53 w, rfl⟩, fun z hz w => by cases hz; exact ⟨_, Tryd.zeroValue53 w, rfl⟩⟩
theorem tok54 : TOk Tryd.prog 54 ⟨.struct [(5, 0), (3, 1), (36, 2), (23, 21), (52, 22), (53, 23)], 24, 144, some [(.int .u8 0), (.int .i64 0), (.int .u64 0), (.int .u64 0), (.int .i32 0), (.int .i32 0), (.int .i32 0), (.int .i32 0), (.int .u8 0), (.int .u8 0), (.int .u8 0), (.int .i32 0), (.int .i32 0), (.int .i32 0), (.int .i32 0), (.int .u8 0), (.int .u8 0), (.int .u8 0), (.slice none 0 0), (.int .u16 0), (.int .u16 0), (.slice none 0 0), (.pointer none), (.pointer none)]⟩ := ⟨⟨_, Tryd.underlying54, ⟨_, rfl, rfl⟩⟩, Tryd.sizeOf54, fun w => ⟨_, Tryd.typeInfo54 w, rfl⟩, fun z hz w => by cases hz; exact ⟨_, Tryd.zeroValue54 w, rfl⟩⟩
theorem tok55 : TOk Tryd.prog 55 ⟨.struct [(5, 0), (3, 1), (36, 2), (23, 21), (52, 22), (53, 23)], 24, 144, some [(.int .u8 0), (.int .i64 0), (.int .u64 0), (.int .u64 0), (.int .i32 0), (.int .i32 0), (.int .i32 0), (.int .i32 0), (.int .u8 0), (.int .u8 0), (.int .u8 0), (.int .i32 0), (.int .i32 0), (.int .i32 0), (.int .i32 0), (.int .u8 0), (.int .u8 0), (.int .u8 0), (.slice none 0 0), (.int .u16 0), (.int .u16 0), (.slice none 0 0), (.pointer none), (.pointer none)]⟩ := ⟨⟨_, Tryd.underlying55, ⟨_, rfl, rfl⟩⟩, Tryd.sizeOf55, fun w => ⟨_, Tryd.typeInfo55 w, rfl⟩, fun z hz w => by cases hz; exact ⟨_, Tryd.zeroValue55 w, rfl⟩⟩
theorem tok57 : TOk Tryd.prog 57 ⟨.slice 5, 1, 24, some [(.slice none 0 0)]⟩ := ⟨⟨_, Tryd.underlying57, rfl⟩, Tryd.sizeOf57, fun w => ⟨_, Tryd.typeInfo57 w, rfl⟩, fun z hz w => by cases hz; exact ⟨_, Tryd.zeroValue57 w, rfl⟩⟩
theorem tok61 : TOk Tryd.prog 61 ⟨.slice 45, 1, 24, some [(.slice none 0 0)]⟩ := ⟨⟨_, Tryd.underlying61, rfl⟩, Tryd.sizeOf61, fun w => ⟨_, Tryd.typeInfo61 w, rfl⟩, fun z hz w => by cases hz; exact ⟨_, Tryd.zeroValue61 w, rfl⟩⟩
theorem tok79 : TOk Tryd.prog 79 ⟨.struct [(21, 0), (21, 1), (21, 2), (21, 3), (5, 4), (5, 5)], 6, 20, some [(.int .i32 0), (.int .i32 0), (.int .i32 0), (.int .i32 0), (.int .u8 0), (.int .u8 0)]⟩ := ⟨⟨_, Tryd.underlying79, ⟨_, rfl, rfl⟩⟩, Tryd.sizeOf79, fun w => ⟨_, Tryd.typeInfo79 w, rfl⟩, fun z hz w => by cases hz; exact ⟨_, Tryd.zeroValue79 w, rfl⟩⟩
theorem tok80 : TOk Tryd.prog 80 ⟨.struct [(21, 0), (21, 1), (21, 2), (21, 3), (5, 4), (5, 5)], 6, 20, some [(.int .i32 0), (.int .i32 0), (.int .i32 0), (.int .i32 0), (.int .u8 0), (.int .u8 0)]⟩ := ⟨⟨_, Tryd.underlying80, ⟨_, rfl, rfl⟩⟩, Tryd.sizeOf80, fun w => ⟨_, Tryd.typeInfo80 w, rfl⟩, fun z hz w => by cases hz; exact ⟨_, Tryd.zeroValue80 w, rfl⟩⟩
theorem tok82 : TOk Tryd.prog 82 ⟨.arr 2 21, 2, 8, some [(.int .i32 0), (.int .i32 0)]⟩ := ⟨⟨_, Tryd.underlying82, rfl⟩, Tryd.sizeOf82, fun w => ⟨_, Tryd.typeInfo82 w, rfl⟩, fun z hz w => by cases hz; exact ⟨_, Tryd.zeroValue82 w, rfl⟩⟩
theorem tok83 : TOk Tryd.prog 83 ⟨.arr 7 82, 14, 56, some [(.int .i32 0), (.int .i32 0), (.int .i32 0), (.int .i32 0), (.int .i32 0), (.int .i32 0), (.int .i32 0), (.int .i32 0), (.int .i32 0), (.int .i32 0), (.int .i32 0), (.int .i32 0), (.int .i32 0), (.int .i32 0)]⟩ := ⟨⟨_, Tryd.underlying83, rfl⟩, Tryd.sizeOf83, fun w => ⟨_, Tryd.typeInfo83 w, rfl⟩, fun z hz w => by cases hz; exact ⟨_, Tryd.zeroValue83 w, rfl⟩⟩
theorem tok84 : TOk Tryd.prog 84 ⟨.arr 6 82, 12, 48, some [(.int .i32 0), (.int .i32 0), (.int .i32 0), (.int .i32 0), (.int .i32 0), (.int .i32 0), (.int .i32 0), (.int .i32 0), (.int .i32 0), (.int .i32 0), (.int .i32 0), (.int .i32 0)]⟩ := ⟨⟨_, Tryd.underlying84, rfl⟩, Tryd.sizeOf84, fun w => ⟨_, Tryd.typeInfo84 w, rfl⟩, fun z hz w => by cases hz; exact ⟨_, Tryd.zeroValue84 w, rfl⟩⟩
theorem tok86 : TOk Tryd.prog 86 ⟨.slice 21, 1, 24, some [(.slice none 0 0)]⟩ := ⟨⟨_, Tryd.underlying86, rfl⟩, Tryd.sizeOf86, fun w => ⟨_, Tryd.typeInfo86 w, rfl⟩, fun z hz w => by cases hz; exact ⟨_, Tryd.zeroValue86 w, rfl⟩⟩
theorem tok88 : TOk Tryd.prog 88 ⟨.slice 82, 1, 24, some [(.slice none 0 0)]⟩ := ⟨⟨_, Tryd.underlying88, rfl⟩, Tryd.sizeOf88, fun w => ⟨_, Tryd.typeInfo88 w, rfl⟩, fun z hz w => by cases hz; exact ⟨_, Tryd.zeroValue88 w, rfl⟩⟩
theorem tok93 : TOk Tryd.prog 93 ⟨.struct [(22, 0), (23, 1), (40, 2)], 3, 40, some [(.int .u64 0), (.slice none 0 0), (.int .u8 0)]⟩ := ⟨⟨_, Tryd.underlying93, ⟨_, rfl, rfl⟩⟩, Tryd.sizeOf93, fun w => ⟨_, Tryd.typeInfo93 w, rfl⟩, fun z hz w => by cases hz; exact ⟨_, Tryd.zeroValue93 w, rfl⟩⟩
theorem tok94 : TOk Tryd.prog 94 ⟨.struct [(22, 0), (23, 1), (40, 2)], 3, 40, some [(.int .u64 0), (.slice none 0 0), (.int .u8 0)]⟩ := ⟨⟨_, Tryd.underlying94, ⟨_, rfl, rfl⟩⟩, Tryd.sizeOf94, fun w => ⟨_, Tryd.typeInfo94 w, rfl⟩, fun z hz w => by cases hz; exact ⟨_, Tryd.zeroValue94 w, rfl⟩⟩
theorem tok95 : TOk Tryd.prog 95 ⟨.struct [(36, 0), (4, 19)], 20, 96, some [(.int .u64 0), (.int .u64 0), (.int .i32 0), (.int .i32 0), (.int .i32 0), (.int .i32 0), (.int .u8 0), (.int .u8 0), (.int .u8 0), (.int .i32 0), (.int .i32 0), (.int .i32 0), (.int .i32 0), (.int .u8 0), (.int .u8 0), (.int .u8 0), (.slice none 0 0), (.int .u16 0), (.int .u16 0), (.bool false)]⟩ := ⟨⟨_, Tryd.underlying95, ⟨_, rfl, rfl⟩⟩, Tryd.sizeOf95, fun w => ⟨_, Tryd.typeInfo95 w, rfl⟩, fun z hz w => by cases hz; exact ⟨_, Tryd.zeroValue95 w, rfl⟩⟩
theorem tok96 : TOk Tryd.prog 96 ⟨.struct [(36, 0), (4, 19)], 20, 96, some [(.int .u64 0), (.int .u64 0), (.int .i32 0), (.int .i32 0), (.int .i32 0), (.int .i32 0), (.int .u8 0), (.int .u8 0), (.int .u8 0), (.int .i32 0), (.int .i32 0), (.int .i32 0), (.int .i32 0), (.int .u8 0), (.int .u8 0), (.int .u8 0), (.slice none 0 0), (.int .u16 0), (.int .u16 0), (.bool false)]⟩ := ⟨⟨_, Tryd.underlying96, ⟨_, rfl, rfl⟩⟩, Tryd.sizeOf96, fun w => ⟨_, Tryd.typeInfo96 w, rfl⟩, fun z hz w => by cases hz; exact ⟨_, Tryd.zeroValue96 w, rfl⟩⟩
theorem tok97 : TOk Tryd.prog 97 ⟨.arr 14 96, 280, 1344, none⟩ := ⟨⟨_, Tryd.underlying97, rfl⟩, Tryd.sizeOf97, fun w => ⟨_, Tryd.typeInfo97 w, rfl⟩, fun z hz w => by cases hz⟩
theorem tok98 : TOk Tryd.prog 98 ⟨.struct [(3, 0), (97, 1)], 281, 1352, some (([(.int .i64 0)] ++ repO 14 [(.int .u64 0), (.int .u64 0), (.int .i32 0), (.int .i32 0), (.int .i32 0), (.int .i32 0), (.int .u8 0), (.int .u8 0), (.int .u8 0), (.int .i32 0), (.int .i32 0), (.int .i32 0), (.int .i32 0), (.int .u8 0), (.int .u8 0), (.int .u8 0), (.slice none 0 0), (.int .u16 0), (.int .u16 0), (.bool false)]))⟩ := ⟨⟨_, Tryd.underlying98, ⟨_, rfl, rfl⟩⟩, Tryd.sizeOf98, fun w => ⟨_, Tryd.typeInfo98 w, rfl⟩, fun z hz w => by cases hz; exact ⟨_, Tryd.zeroValue98 w, by kernel_rfl⟩⟩
theorem tok99 : TOk Tryd.prog 99 ⟨.struct [(3, 0), (97, 1)], 281, 1352, some (([(.int .i64 0)] ++ repO 14 [(.int .u64 0), (.int .u64 0), (.int .i32 0), (.int .i32 0), (.int .i32 0), (.int .i32 0), (.int .u8 0), (.int .u8 0), (.int .u8 0), (.int .i32 0), (.int .i32 0), (.int .i32 0), (.int .i32 0), (.int .u8 0), (.int .u8 0), (.int .u8 0), (.slice none 0 0), (.int .u16 0), (.int .u16 0), (.bool false)]))⟩ := ⟨⟨_, Tryd.underlying99, ⟨_, rfl, rfl⟩⟩, Tryd.sizeOf99, fun w => ⟨_, Tryd.typeInfo99 w, rfl⟩, fun z hz w => by cases hz; exact ⟨_, Tryd.zeroValue99 w, by kernel_rfl⟩⟩
theorem tok100 : TOk Tryd.prog 100 ⟨.ptr 96, 1, 8, some [(.pointer none)]⟩ := ⟨⟨_, Tryd.underlying100, rfl⟩, Tryd.sizeOf100, fun w => ⟨_, Tryd.typeInfo100 w, rfl⟩, fun z hz w => by cases hz; exact ⟨_, Tryd.zeroValue100 w, rfl⟩⟩
theorem tok102 : TOk Tryd.prog 102 ⟨.slice 96, 1, 24, some [(.slice none 0 0)]⟩ := ⟨⟨_, Tryd.underlying102, rfl⟩, Tryd.sizeOf102, fun w => ⟨_, Tryd.typeInfo102 w, rfl⟩, fun z hz w => by cases hz; exact ⟨_, Tryd.zeroValue102 w, rfl⟩⟩
theorem tok106 : TOk Tryd.prog 106 ⟨.ptr 30, 1, 8, some [(.pointer none)]⟩ := ⟨⟨_, Tryd.underlying106, rfl⟩, Tryd.sizeOf106, fun w => ⟨_, Tryd.typeInfo106 w, rfl⟩, fun z hz w => by cases hz; exact ⟨_, Tryd.zeroValue106 w, rfl⟩⟩
theorem tok110 : TOk Tryd.prog 110 ⟨.struct [(21, 0), (21, 1), (21, 2), (21, 3)], 4, 16, some [(.int .i32 0), (.int .i32 0), (.int .i32 0), (.int .i32 0)]⟩ := ⟨⟨_, Tryd.underlying110, ⟨_, rfl, rfl⟩⟩, Tryd.sizeOf110, fun w => ⟨_, Tryd.typeInfo110 w, rfl⟩, fun z hz w => by cases hz; exact ⟨_, Tryd.zeroValue110 w, rfl⟩⟩
theorem tok111 : TOk Tryd.prog 111 ⟨.struct [(21, 0), (21, 1), (21, 2), (21, 3)], 4, 16, some [(.int .i32 0), (.int .i32 0), (.int .i32 0), (.int .i32 0)]⟩ := ⟨⟨_, Tryd.underlying111, ⟨_, rfl, rfl⟩⟩, Tryd.sizeOf111, fun w => ⟨_, Tryd.typeInfo111 w, rfl⟩, fun z hz w => by cases hz; exact ⟨_, Tryd.zeroValue111 w, rfl⟩⟩
theorem tok114 : TOk Tryd.prog 114 ⟨.ptr 36, 1, 8, some [(.pointer none)]⟩ := ⟨⟨_, Tryd.underlying114, rfl⟩, Tryd.sizeOf114, fun w => ⟨_, Tryd.typeInfo114 w, rfl⟩, fun z hz w => by cases hz; exact ⟨_, Tryd.zeroValue114 w, rfl⟩⟩
theorem tok126 : TOk Tryd.prog 126 ⟨.struct [(2, 0), (2, 1)], 2, 16, some [(.int .i64 0), (.int .i64 0)]⟩ := ⟨⟨_, Tryd.underlying126, ⟨_, rfl, rfl⟩⟩, Tryd.sizeOf126, fun w => ⟨_, Tryd.typeInfo126 w, rfl⟩, fun z hz w => by cases hz; exact ⟨_, Tryd.zeroValue126 w, rfl⟩⟩
theorem tok127 : TOk Tryd.prog 127 ⟨.struct [(2, 0), (2, 1)], 2, 16, some [(.int .i64 0), (.int .i64 0)]⟩ := ⟨⟨_, Tryd.underlying127, ⟨_, rfl, rfl⟩⟩, Tryd.sizeOf127, fun w => ⟨_, Tryd.typeInfo127 w, rfl⟩, fun z hz w => by cases hz; exact ⟨_, Tryd.zeroValue127 w, rfl⟩⟩
theorem tok128 : TOk Tryd.prog 128 ⟨.struct [(22, 0)], 1, 8, some [(.int .u64 0)]⟩ := ⟨⟨_, Tryd.underlying128, ⟨_, rfl, rfl⟩⟩, Tryd.sizeOf128, fun w => ⟨_, Tryd.typeInfo128 w, rfl⟩, fun z hz w => by cases hz; exact ⟨_, Tryd.zeroValue128 w, rfl⟩⟩
theorem tok129 : TOk Tryd.prog 129 ⟨.struct [(22, 0)], 1, 8, some [(.int .u64 0)]⟩ := ⟨⟨_, Tryd.underlying129, ⟨_, rfl, rfl⟩⟩, Tryd.sizeOf129, fun w => ⟨_, Tryd.typeInfo129 w, rfl⟩, fun z hz w => by cases hz; exact ⟨_, Tryd.zeroValue129 w, rfl⟩⟩
theorem tok137 : TOk Tryd.prog 137 ⟨.int .u64, 1, 8, some [(.int .u64 0)]⟩ := ⟨⟨_, Tryd.underlying137, rfl⟩, Tryd.sizeOf137, fun w => ⟨_, Tryd.typeInfo137 w, rfl⟩, fun z hz w => by cases hz; exact ⟨_, Tryd.zeroValue137 w, rfl⟩⟩
theorem tok148 : TOk Tryd.prog 148 ⟨.int .u32, 1, 4, some [(.int .u32 0)]⟩ := ⟨⟨_, Tryd.underlying148, rfl⟩, Tryd.sizeOf148, fun w => ⟨_, Tryd.typeInfo148 w, rfl⟩, fun z hz w => by cases hz; exact ⟨_, Tryd.zeroValue148 w, rfl⟩⟩
theorem tok152 : TOk Tryd.prog 152 ⟨.ptr 5, 1, 8, some [(.pointer none)]⟩ := ⟨⟨_, Tryd.underlying152, rfl⟩, Tryd.sizeOf152, fun w => ⟨_, Tryd.typeInfo152 w, rfl⟩, fun z hz w => by cases hz; exact ⟨_, Tryd.zeroValue152 w, rfl⟩⟩
theorem ctt_ok : CTabOk Tryd.prog TT := by
  intro x hx
  simp only [TT, List.mem_cons, List.not_mem_nil, or_false] at hx
  rcases hx with rfl | rfl | rfl | rfl | rfl | rfl | rfl | rfl | rfl | rfl | rfl | rfl | rfl | rfl | rfl | rfl | rfl | rfl | rfl | rfl | rfl | rfl | rfl | rfl | rfl | rfl | rfl | rfl | rfl | rfl | rfl | rfl | rfl | rfl | rfl | rfl | rfl | rfl | rfl | rfl | rfl | rfl | rfl | rfl | rfl | rfl | rfl | rfl | rfl | rfl | rfl | rfl | rfl | rfl | rfl | rfl | rfl
  · exact ⟨by kernel_rfl, by kernel_rfl⟩
  · exact ⟨by kernel_rfl, by kernel_rfl⟩
  · exact ⟨by kernel_rfl, by kernel_rfl⟩
  · exact ⟨by kernel_rfl, by kernel_rfl⟩
  · exact ⟨by kernel_rfl, by kernel_rfl⟩
  · exact ⟨by kernel_rfl, by kernel_rfl⟩
  · exact ⟨by kernel_rfl, by kernel_rfl⟩
  · exact ⟨by kernel_rfl, by kernel_rfl⟩
  · exact ⟨by kernel_rfl, by kernel_rfl⟩
  · exact ⟨by kernel_rfl, by kernel_rfl⟩
  · exact ⟨by kernel_rfl, by kernel_rfl⟩
  · exact ⟨by kernel_rfl, by kernel_rfl⟩
  · exact ⟨by kernel_rfl, by kernel_rfl⟩
  · exact ⟨by kernel_rfl, by kernel_rfl⟩
  · exact ⟨by kernel_rfl, by kernel_rfl⟩
  · exact ⟨by kernel_rfl, by kernel_rfl⟩
  · exact ⟨by kernel_rfl, by kernel_rfl⟩
  · exact ⟨by kernel_rfl, by kernel_rfl⟩
  · exact ⟨by kernel_rfl, by kernel_rfl⟩
  · exact ⟨by kernel_rfl, by kernel_rfl⟩
  · exact ⟨by kernel_rfl, by kernel_rfl⟩
  · exact ⟨by kernel_rfl, by kernel_rfl⟩
  · exact ⟨by kernel_rfl, by kernel_rfl⟩
  · exact ⟨by kernel_rfl, by kernel_rfl⟩
  · exact ⟨by kernel_rfl, by kernel_rfl⟩
  · exact ⟨by kernel_rfl, by kernel_rfl⟩
  · exact ⟨by kernel_rfl, by kernel_rfl⟩
  · exact ⟨by kernel_rfl, by kernel_rfl⟩
  · exact ⟨by kernel_rfl, by kernel_rfl⟩
  · exact ⟨by kernel_rfl, by kernel_rfl⟩
  · exact ⟨by kernel_rfl, by kernel_rfl⟩
  · exact ⟨by kernel_rfl, by kernel_rfl⟩
  · exact ⟨by kernel_rfl, by kernel_rfl⟩
  · exact ⟨by kernel_rfl, by kernel_rfl⟩
  · exact ⟨by kernel_rfl, by kernel_rfl⟩
  · exact ⟨by kernel_rfl, by kernel_rfl⟩
  · exact ⟨by kernel_rfl, by kernel_rfl⟩
  · exact ⟨by kernel_rfl, by kernel_rfl⟩
  · exact ⟨by kernel_rfl, by kernel_rfl⟩
  · exact ⟨by kernel_rfl, by kernel_rfl⟩
  · exact ⟨by kernel_rfl, by kernel_rfl⟩
  · exact ⟨by kernel_rfl, by kernel_rfl⟩
  · exact ⟨by kernel_rfl, by kernel_rfl⟩
  · exact ⟨by kernel_rfl, by kernel_rfl⟩
  · exact ⟨by kernel_rfl, by kernel_rfl⟩
  · exact ⟨by kernel_rfl, by kernel_rfl⟩
  · exact ⟨by kernel_rfl, by kernel_rfl⟩
  · exact ⟨by kernel_rfl, by kernel_rfl⟩
  · exact ⟨by kernel_rfl, by kernel_rfl⟩
  · exact ⟨by kernel_rfl, by kernel_rfl⟩
  · exact ⟨by kernel_rfl, by kernel_rfl⟩
  · exact ⟨by kernel_rfl, by kernel_rfl⟩
  · exact ⟨by kernel_rfl, by kernel_rfl⟩
  · exact ⟨by kernel_rfl, by kernel_rfl⟩
  · exact ⟨by kernel_rfl, by kernel_rfl⟩
  · exact ⟨by kernel_rfl, by kernel_rfl⟩
  · exact ⟨by kernel_rfl, by kernel_rfl⟩
theorem tt_closed : structsIn TT TT = true := by kernel_rfl
theorem tt_ok : TabOk Tryd.prog TT := by
  intro x hx
  simp only [TT, List.mem_cons, List.not_mem_nil, or_false] at hx
  rcases hx with rfl | rfl | rfl | rfl | rfl | rfl | rfl | rfl | rfl | rfl | rfl | rfl | rfl | rfl | rfl | rfl | rfl | rfl | rfl | rfl | rfl | rfl | rfl | rfl | rfl | rfl | rfl | rfl | rfl | rfl | rfl | rfl | rfl | rfl | rfl | rfl | rfl | rfl | rfl | rfl | rfl | rfl | rfl | rfl | rfl | rfl | rfl | rfl | rfl | rfl | rfl | rfl | rfl | rfl | rfl | rfl | rfl
  · exact tok2
  · exact tok3
  · exact tok4
  · exact tok5
  · exact tok9
  · exact tok12
  · exact tok21
  · exact tok22
  · exact tok23
  · exact tok24
  · exact tok25
  · exact tok27
  · exact tok29
  · exact tok30
  · exact tok31
  · exact tok32
  · exact tok33
  · exact tok34
  · exact tok35
  · exact tok36
  · exact tok38
  · exact tok40
  · exact tok44
  · exact tok45
  · exact tok52
  · exact tok53
  · exact tok54
  · exact tok55
  · exact tok57
  · exact tok61
  · exact tok79
  · exact tok80
  · exact tok82
  · exact tok83
  · exact tok84
  · exact tok86
  · exact tok88
  · exact tok93
  · exact tok94
  · exact tok95
  · exact tok96
  · exact tok97
  · exact tok98
  · exact tok99
  · exact tok100
  · exact tok102
  · exact tok106
  · exact tok110
  · exact tok111
  · exact tok114
  · exact tok126
  · exact tok127
  · exact tok128
  · exact tok129
  · exact tok137
  · exact tok148
  · exact tok152
theorem tt_eq : eqOkB Tryd.prog TT = true := by kernel_rfl
theorem tt_one : oneB TT = true := by kernel_rfl


theorem wP {ops : Array Oper} {Q : Exit → Act → World → Prop} {w0 : World} {A : List Nat} {n : Nat} {rest : List Oper} {E : List (Nat × Value)} {L : List Blk} {d : Nat} {op : Op} {ty : TypeId} {pos : String} {aft : Array Edge} {v : Value} (h : stepV TT E op = some v) (hd : Nat.blt d n = true) (k : WL Tryd.prog ops Q w0 A n rest ((d, v) :: E) L) :
    WL Tryd.prog ops Q w0 A n (⟨some d, op, ty, pos, aft, none⟩ :: rest) E L := wl_pure tt_ok h hd k
theorem qP {ops : Array Oper} {Q : Exit → Act → World → Prop} {w0 : World} {A : List Nat} {n : Nat} {rest : List Oper} {E : List (Nat × Value)} {L : List Blk} {d : Nat} {op : Op} {ty : TypeId} {pos : String} {aft : Array Edge} {v : Value} (h : stepV TT E op = some v) (hd : Nat.blt d n = true) (k : WQ Tryd.prog ops Q w0 A n rest ((d, v) :: E) L) :
    WQ Tryd.prog ops Q w0 A n (⟨some d, op, ty, pos, aft, none⟩ :: rest) E L := wq_pure tt_ok h hd k

end Go.Proofs.YtkekgagekgadmaaDoor
