/- The program's types in a table of the engine's kind, each row proved against the program. -/
import Derived.Test.YthlnellnlhkphaaDoorProg
import Derived.Test.YthlnellnlhkphaaDoorEng5
import Derived.KernelRfl
namespace Go.Proofs.YthlnellnlhkphaaDoor
open Go.Proofs.YthlnellnlhkphaaDoor.Eng Go.RowKit

def TT : List (Nat × TI) :=
  [(2, ⟨.int .i64, 1, 8, some [(.int .i64 0)]⟩),
   (3, ⟨.int .i64, 1, 8, some [(.int .i64 0)]⟩),
   (4, ⟨.bool, 1, 1, some [(.bool false)]⟩),
   (5, ⟨.int .u8, 1, 1, some [(.int .u8 0)]⟩),
   (9, ⟨.str, 1, 16, some [(.string ByteArray.empty)]⟩),
   (12, ⟨.int .u64, 1, 8, some [(.int .u64 0)]⟩),
   (21, ⟨.int .i32, 1, 4, some [(.int .i32 0)]⟩),
   (22, ⟨.slice 43, 1, 24, some [(.slice none 0 0)]⟩),
   (23, ⟨.ptr 56, 1, 8, some [(.pointer none)]⟩),
   (28, ⟨.ptr 32, 1, 8, some [(.pointer none)]⟩),
   (29, ⟨.int .u64, 1, 8, some [(.int .u64 0)]⟩),
   (30, ⟨.slice 77, 1, 24, some [(.slice none 0 0)]⟩),
   (31, ⟨.struct [(29, 0), (30, 1), (4, 2)], 3, 40, some [(.int .u64 0), (.slice none 0 0), (.bool false)]⟩),
   (32, ⟨.struct [(29, 0), (30, 1), (4, 2)], 3, 40, some [(.int .u64 0), (.slice none 0 0), (.bool false)]⟩),
   (34, ⟨.struct [(21, 0), (21, 1), (21, 2), (21, 3), (5, 4), (5, 5), (5, 6)], 7, 20, some [(.int .i32 0), (.int .i32 0), (.int .i32 0), (.int .i32 0), (.int .u8 0), (.int .u8 0), (.int .u8 0)]⟩),
   (35, ⟨.struct [(21, 0), (21, 1), (21, 2), (21, 3), (5, 4), (5, 5), (5, 6)], 7, 20, some [(.int .i32 0), (.int .i32 0), (.int .i32 0), (.int .i32 0), (.int .u8 0), (.int .u8 0), (.int .u8 0)]⟩),
   (36, ⟨.arr 2 35, 14, 40, some [(.int .i32 0), (.int .i32 0), (.int .i32 0), (.int .i32 0), (.int .u8 0), (.int .u8 0), (.int .u8 0), (.int .i32 0), (.int .i32 0), (.int .i32 0), (.int .i32 0), (.int .u8 0), (.int .u8 0), (.int .u8 0)]⟩),
   (37, ⟨.slice 87, 1, 24, some [(.slice none 0 0)]⟩),
   (38, ⟨.int .u16, 1, 2, some [(.int .u16 0)]⟩),
   (39, ⟨.arr 2 38, 2, 4, some [(.int .u16 0), (.int .u16 0)]⟩),
   (40, ⟨.struct [(29, 0), (29, 1), (36, 2), (37, 16), (39, 17)], 19, 88, some [(.int .u64 0), (.int .u64 0), (.int .i32 0), (.int .i32 0), (.int .i32 0), (.int .i32 0), (.int .u8 0), (.int .u8 0), (.int .u8 0), (.int .i32 0), (.int .i32 0), (.int .i32 0), (.int .i32 0), (.int .u8 0), (.int .u8 0), (.int .u8 0), (.slice none 0 0), (.int .u16 0), (.int .u16 0)]⟩),
   (41, ⟨.struct [(29, 0), (29, 1), (36, 2), (37, 16), (39, 17)], 19, 88, some [(.int .u64 0), (.int .u64 0), (.int .i32 0), (.int .i32 0), (.int .i32 0), (.int .i32 0), (.int .u8 0), (.int .u8 0), (.int .u8 0), (.int .i32 0), (.int .i32 0), (.int .i32 0), (.int .i32 0), (.int .u8 0), (.int .u8 0), (.int .u8 0), (.slice none 0 0), (.int .u16 0), (.int .u16 0)]⟩),
   (42, ⟨.struct [(5, 0), (29, 1), (29, 2), (41, 3)], 22, 112, some [(.int .u8 0), (.int .u64 0), (.int .u64 0), (.int .u64 0), (.int .u64 0), (.int .i32 0), (.int .i32 0), (.int .i32 0), (.int .i32 0), (.int .u8 0), (.int .u8 0), (.int .u8 0), (.int .i32 0), (.int .i32 0), (.int .i32 0), (.int .i32 0), (.int .u8 0), (.int .u8 0), (.int .u8 0), (.slice none 0 0), (.int .u16 0), (.int .u16 0)]⟩),
   (43, ⟨.struct [(5, 0), (29, 1), (29, 2), (41, 3)], 22, 112, some [(.int .u8 0), (.int .u64 0), (.int .u64 0), (.int .u64 0), (.int .u64 0), (.int .i32 0), (.int .i32 0), (.int .i32 0), (.int .i32 0), (.int .u8 0), (.int .u8 0), (.int .u8 0), (.int .i32 0), (.int .i32 0), (.int .i32 0), (.int .i32 0), (.int .u8 0), (.int .u8 0), (.int .u8 0), (.slice none 0 0), (.int .u16 0), (.int .u16 0)]⟩),
   (49, ⟨.int .i64, 1, 8, some [(.int .i64 0)]⟩),
   (54, ⟨.slice 73, 1, 24, some [(.slice none 0 0)]⟩),
   (55, ⟨.struct [(29, 0), (54, 1), (4, 2)], 3, 40, some [(.int .u64 0), (.slice none 0 0), (.bool false)]⟩),
   (56, ⟨.struct [(29, 0), (54, 1), (4, 2)], 3, 40, some [(.int .u64 0), (.slice none 0 0), (.bool false)]⟩),
   (57, ⟨.slice 64, 1, 24, some [(.slice none 0 0)]⟩),
   (58, ⟨.slice 66, 1, 24, some [(.slice none 0 0)]⟩),
   (59, ⟨.arr 2 23, 2, 16, some [(.pointer none), (.pointer none)]⟩),
   (60, ⟨.slice 41, 1, 24, some [(.slice none 0 0)]⟩),
   (62, ⟨.int .u8, 1, 1, some [(.int .u8 0)]⟩),
   (63, ⟨.arr 2 62, 2, 2, some [(.int .u8 0), (.int .u8 0)]⟩),
   (64, ⟨.arr 2 62, 2, 2, some [(.int .u8 0), (.int .u8 0)]⟩),
   (65, ⟨.struct [(5, 0), (5, 1), (4, 2)], 3, 3, some [(.int .u8 0), (.int .u8 0), (.bool false)]⟩),
   (66, ⟨.struct [(5, 0), (5, 1), (4, 2)], 3, 3, some [(.int .u8 0), (.int .u8 0), (.bool false)]⟩),
   (70, ⟨.struct [(29, 0), (4, 1)], 2, 16, some [(.int .u64 0), (.bool false)]⟩),
   (71, ⟨.struct [(29, 0), (4, 1)], 2, 16, some [(.int .u64 0), (.bool false)]⟩),
   (72, ⟨.struct [(29, 0), (71, 1), (71, 3)], 5, 40, some [(.int .u64 0), (.int .u64 0), (.bool false), (.int .u64 0), (.bool false)]⟩),
   (73, ⟨.struct [(29, 0), (71, 1), (71, 3)], 5, 40, some [(.int .u64 0), (.int .u64 0), (.bool false), (.int .u64 0), (.bool false)]⟩),
   (74, ⟨.arr 2 29, 2, 16, some [(.int .u64 0), (.int .u64 0)]⟩),
   (75, ⟨.arr 2 4, 2, 2, some [(.bool false), (.bool false)]⟩),
   (76, ⟨.struct [(29, 0), (74, 1), (75, 3)], 5, 32, some [(.int .u64 0), (.int .u64 0), (.int .u64 0), (.bool false), (.bool false)]⟩),
   (77, ⟨.struct [(29, 0), (74, 1), (75, 3)], 5, 32, some [(.int .u64 0), (.int .u64 0), (.int .u64 0), (.bool false), (.bool false)]⟩),
   (85, ⟨.ptr 35, 1, 8, some [(.pointer none)]⟩),
   (86, ⟨.struct [(21, 0), (21, 1), (21, 2), (21, 3), (5, 4), (5, 5)], 6, 20, some [(.int .i32 0), (.int .i32 0), (.int .i32 0), (.int .i32 0), (.int .u8 0), (.int .u8 0)]⟩),
   (87, ⟨.struct [(21, 0), (21, 1), (21, 2), (21, 3), (5, 4), (5, 5)], 6, 20, some [(.int .i32 0), (.int .i32 0), (.int .i32 0), (.int .i32 0), (.int .u8 0), (.int .u8 0)]⟩),
   (91, ⟨.struct [(21, 0), (21, 1), (21, 2), (21, 3)], 4, 16, some [(.int .i32 0), (.int .i32 0), (.int .i32 0), (.int .i32 0)]⟩),
   (92, ⟨.struct [(21, 0), (21, 1), (21, 2), (21, 3)], 4, 16, some [(.int .i32 0), (.int .i32 0), (.int .i32 0), (.int .i32 0)]⟩),
   (95, ⟨.ptr 41, 1, 8, some [(.pointer none)]⟩),
   (98, ⟨.ptr 73, 1, 8, some [(.pointer none)]⟩),
   (100, ⟨.ptr 71, 1, 8, some [(.pointer none)]⟩),
   (101, ⟨.slice 5, 1, 24, some [(.slice none 0 0)]⟩),
   (102, ⟨.struct [(101, 0)], 1, 24, some [(.slice none 0 0)]⟩),
   (103, ⟨.struct [(101, 0)], 1, 24, some [(.slice none 0 0)]⟩),
   (106, ⟨.ptr 103, 1, 8, some [(.pointer none)]⟩),
   (107, ⟨.slice 21, 1, 24, some [(.slice none 0 0)]⟩),
   (113, ⟨.arr 2 21, 2, 8, some [(.int .i32 0), (.int .i32 0)]⟩),
   (114, ⟨.arr 7 113, 14, 56, some [(.int .i32 0), (.int .i32 0), (.int .i32 0), (.int .i32 0), (.int .i32 0), (.int .i32 0), (.int .i32 0), (.int .i32 0), (.int .i32 0), (.int .i32 0), (.int .i32 0), (.int .i32 0), (.int .i32 0), (.int .i32 0)]⟩),
   (115, ⟨.arr 6 113, 12, 48, some [(.int .i32 0), (.int .i32 0), (.int .i32 0), (.int .i32 0), (.int .i32 0), (.int .i32 0), (.int .i32 0), (.int .i32 0), (.int .i32 0), (.int .i32 0), (.int .i32 0), (.int .i32 0)]⟩),
   (117, ⟨.slice 113, 1, 24, some [(.slice none 0 0)]⟩),
   (128, ⟨.struct [(2, 0), (2, 1)], 2, 16, some [(.int .i64 0), (.int .i64 0)]⟩),
   (129, ⟨.struct [(2, 0), (2, 1)], 2, 16, some [(.int .i64 0), (.int .i64 0)]⟩),
   (130, ⟨.struct [(29, 0)], 1, 8, some [(.int .u64 0)]⟩),
   (131, ⟨.struct [(29, 0)], 1, 8, some [(.int .u64 0)]⟩),
   (144, ⟨.int .u64, 1, 8, some [(.int .u64 0)]⟩),
   (160, ⟨.int .u32, 1, 4, some [(.int .u32 0)]⟩),
   (176, ⟨.ptr 5, 1, 8, some [(.pointer none)]⟩)]

theorem tok2 : TOk Tryd.prog 2 ⟨.int .i64, 1, 8, some [(.int .i64 0)]⟩ := ⟨⟨_, Tryd.underlying2, rfl⟩, Tryd.sizeOf2, fun w => ⟨_, Tryd.typeInfo2 w, rfl⟩, fun z hz w => by cases hz; exact ⟨_, Tryd.zeroValue2 w, rfl⟩⟩
theorem tok3 : TOk Tryd.prog 3 ⟨.int .i64, 1, 8, some [(.int .i64 0)]⟩ := ⟨⟨_, Tryd.underlying3, rfl⟩, Tryd.sizeOf3, fun w => ⟨_, Tryd.typeInfo3 w, rfl⟩, fun z hz w => by cases hz; exact ⟨_, Tryd.zeroValue3 w, rfl⟩⟩
theorem tok4 : TOk Tryd.prog 4 ⟨.bool, 1, 1, some [(.bool false)]⟩ := ⟨⟨_, Tryd.underlying4, rfl⟩, Tryd.sizeOf4, fun w => ⟨_, Tryd.typeInfo4 w, rfl⟩, fun z hz w => by cases hz; exact ⟨_, Tryd.zeroValue4 w, rfl⟩⟩
theorem tok5 : TOk Tryd.prog 5 ⟨.int .u8, 1, 1, some [(.int .u8 0)]⟩ := ⟨⟨_, Tryd.underlying5, rfl⟩, Tryd.sizeOf5, fun w => ⟨_, Tryd.typeInfo5 w, rfl⟩, fun z hz w => by cases hz; exact ⟨_, Tryd.zeroValue5 w, rfl⟩⟩
theorem tok9 : TOk Tryd.prog 9 ⟨.str, 1, 16, some [(.string ByteArray.empty)]⟩ := ⟨⟨_, Tryd.underlying9, rfl⟩, Tryd.sizeOf9, fun w => ⟨_, Tryd.typeInfo9 w, rfl⟩, fun z hz w => by cases hz; exact ⟨_, Tryd.zeroValue9 w, rfl⟩⟩
theorem tok12 : TOk Tryd.prog 12 ⟨.int .u64, 1, 8, some [(.int .u64 0)]⟩ := ⟨⟨_, Tryd.underlying12, rfl⟩, Tryd.sizeOf12, fun w => ⟨_, Tryd.typeInfo12 w, rfl⟩, fun z hz w => by cases hz; exact ⟨_, Tryd.zeroValue12 w, rfl⟩⟩
theorem tok21 : TOk Tryd.prog 21 ⟨.int .i32, 1, 4, some [(.int .i32 0)]⟩ := ⟨⟨_, Tryd.underlying21, rfl⟩, Tryd.sizeOf21, fun w => ⟨_, Tryd.typeInfo21 w, rfl⟩, fun z hz w => by cases hz; exact ⟨_, Tryd.zeroValue21 w, rfl⟩⟩
theorem tok22 : TOk Tryd.prog 22 ⟨.slice 43, 1, 24, some [(.slice none 0 0)]⟩ := ⟨⟨_, Tryd.underlying22, rfl⟩, Tryd.sizeOf22, fun w => ⟨_, Tryd.typeInfo22 w, rfl⟩, fun z hz w => by cases hz; exact ⟨_, Tryd.zeroValue22 w, rfl⟩⟩
theorem tok23 : TOk Tryd.prog 23 ⟨.ptr 56, 1, 8, some [(.pointer none)]⟩ := ⟨⟨_, Tryd.underlying23, rfl⟩, Tryd.sizeOf23, fun w => ⟨_, Tryd.typeInfo23 w, rfl⟩, fun z hz w => by cases hz; exact ⟨_, Tryd.zeroValue23 w, rfl⟩⟩
theorem tok28 : TOk Tryd.prog 28 ⟨.ptr 32, 1, 8, some [(.pointer none)]⟩ := ⟨⟨_, Tryd.underlying28, rfl⟩, Tryd.sizeOf28, fun w => ⟨_, Tryd.typeInfo28 w, rfl⟩, fun z hz w => by cases hz; exact ⟨_, Tryd.zeroValue28 w, rfl⟩⟩
theorem tok29 : TOk Tryd.prog 29 ⟨.int .u64, 1, 8, some [(.int .u64 0)]⟩ := ⟨⟨_, Tryd.underlying29, rfl⟩, Tryd.sizeOf29, fun w => ⟨_, Tryd.typeInfo29 w, rfl⟩, fun z hz w => by cases hz; exact ⟨_, Tryd.zeroValue29 w, rfl⟩⟩
theorem tok30 : TOk Tryd.prog 30 ⟨.slice 77, 1, 24, some [(.slice none 0 0)]⟩ := ⟨⟨_, Tryd.underlying30, rfl⟩, Tryd.sizeOf30, fun w => ⟨_, Tryd.typeInfo30 w, rfl⟩, fun z hz w => by cases hz; exact ⟨_, Tryd.zeroValue30 w, rfl⟩⟩
theorem tok31 : TOk Tryd.prog 31 ⟨.struct [(29, 0), (30, 1), (4, 2)], 3, 40, some [(.int .u64 0), (.slice none 0 0), (.bool false)]⟩ := ⟨⟨_, Tryd.underlying31, ⟨_, rfl, rfl⟩⟩, Tryd.sizeOf31, fun w => ⟨_, Tryd.typeInfo31 w, rfl⟩, fun z hz w => by cases hz; exact ⟨_, Tryd.zeroValue31 w, rfl⟩⟩
theorem tok32 : TOk Tryd.prog 32 ⟨.struct [(29, 0), (30, 1), (4, 2)], 3, 40, some [(.int .u64 0), (.slice none 0 0), (.bool false)]⟩ := ⟨⟨_, Tryd.underlying32, ⟨_, rfl, rfl⟩⟩, Tryd.sizeOf32, fun w => ⟨_, Tryd.typeInfo32 w, rfl⟩, fun z hz w => by cases hz; exact ⟨_, Tryd.zeroValue32 w, rfl⟩⟩
theorem tok34 : TOk Tryd.prog 34 ⟨.struct [(21, 0), (21, 1), (21, 2), (21, 3), (5, 4), (5, 5), (5, 6)], 7, 20, some [(.int .i32 0), (.int .i32 0), (.int .i32 0), (.int .i32 0), (.int .u8 0), (.int .u8 0), (.int .u8 0)]⟩ := ⟨⟨_, Tryd.underlying34, ⟨_, rfl, rfl⟩⟩, Tryd.sizeOf34, fun w => ⟨_, Tryd.typeInfo34 w, rfl⟩, fun z hz w => by cases hz; exact ⟨_, Tryd.zeroValue34 w, rfl⟩⟩
theorem tok35 : TOk Tryd.prog 35 ⟨.struct [(21, 0), (21, 1), (21, 2), (21, 3), (5, 4), (5, 5), (5, 6)], 7, 20, some [(.int .i32 0), (.int .i32 0), (.int .i32 0), (.int .i32 0), (.int .u8 0), (.int .u8 0), (.int .u8 0)]⟩ := ⟨⟨_, Tryd.underlying35, ⟨_, rfl, rfl⟩⟩, Tryd.sizeOf35, fun w => ⟨_, Tryd.typeInfo35 w, rfl⟩, fun z hz w => by cases hz; exact ⟨_, Tryd.zeroValue35 w, rfl⟩⟩
theorem tok36 : TOk Tryd.prog 36 ⟨.arr 2 35, 14, 40, some [(.int .i32 0), (.int .i32 0), (.int .i32 0), (.int .i32 0), (.int .u8 0), (.int .u8 0), (.int .u8 0), (.int .i32 0), (.int .i32 0), (.int .i32 0), (.int .i32 0), (.int .u8 0), (.int .u8 0), (.int .u8 0)]⟩ := ⟨⟨_, Tryd.underlying36, rfl⟩, Tryd.sizeOf36, fun w => ⟨_, Tryd.typeInfo36 w, rfl⟩, fun z hz w => by cases hz; exact ⟨_, Tryd.zeroValue36 w, rfl⟩⟩
theorem tok37 : TOk Tryd.prog 37 ⟨.slice 87, 1, 24, some [(.slice none 0 0)]⟩ := ⟨⟨_, Tryd.underlying37, rfl⟩, Tryd.sizeOf37, fun w => ⟨_, Tryd.typeInfo37 w, rfl⟩, fun z hz w => by cases hz; exact ⟨_, Tryd.zeroValue37 w, rfl⟩⟩
theorem tok38 : TOk Tryd.prog 38 ⟨.int .u16, 1, 2, some [(.int .u16 0)]⟩ := ⟨⟨_, Tryd.underlying38, rfl⟩, Tryd.sizeOf38, fun w => ⟨_, Tryd.typeInfo38 w, rfl⟩, fun z hz w => by cases hz; exact ⟨_, Tryd.zeroValue38 w, rfl⟩⟩
theorem tok39 : TOk Tryd.prog 39 ⟨.arr 2 38, 2, 4, some [(.int .u16 0), (.int .u16 0)]⟩ := ⟨⟨_, Tryd.underlying39, rfl⟩, Tryd.sizeOf39, fun w => ⟨_, Tryd.typeInfo39 w, rfl⟩, fun z hz w => by cases hz; exact ⟨_, Tryd.zeroValue39 w, rfl⟩⟩
theorem tok40 : TOk Tryd.prog 40 ⟨.struct [(29, 0), (29, 1), (36, 2), (37, 16), (39, 17)], 19, 88, some [(.int .u64 0), (.int .u64 0), (.int .i32 0), (.int .i32 0), (.int .i32 0), (.int .i32 0), (.int .u8 0), (.int .u8 0), (.int .u8 0), (.int .i32 0), (.int .i32 0), (.int .i32 0), (.int .i32 0), (.int .u8 0), (.int .u8 0), (.int .u8 0), (.slice none 0 0), (.int .u16 0), (.int .u16 0)]⟩ := ⟨⟨_, Tryd.underlying40, ⟨_, rfl, rfl⟩⟩, Tryd.sizeOf40, fun w => ⟨_, Tryd.typeInfo40 w, rfl⟩, fun z hz w => by cases hz; exact ⟨_, Tryd.zeroValue40 w, rfl⟩⟩
theorem tok41 : TOk Tryd.prog 41 ⟨.struct [(29, 0), (29, 1), (36, 2), (37, 16), (39, 17)], 19, 88, some [(.int .u64 0), (.int .u64 0), (.int .i32 0), (.int .i32 0), (.int .i32 0), (.int .i32 0), (.int .u8 0), (.int .u8 0), (.int .u8 0), (.int .i32 0), (.int .i32 0), (.int .i32 0), (.int .i32 0), (.int .u8 0), (.int .u8 0), (.int .u8 0), (.slice none 0 0), (.int .u16 0), (.int .u16 0)]⟩ := ⟨⟨_, Tryd.underlying41, ⟨_, rfl, rfl⟩⟩, Tryd.sizeOf41, fun w => ⟨_, Tryd.typeInfo41 w, rfl⟩, fun z hz w => by cases hz; exact ⟨_, Tryd.zeroValue41 w, rfl⟩⟩
theorem tok42 : TOk Tryd.prog 42 ⟨.struct [(5, 0), (29, 1), (29, 2), (41, 3)], 22, 112, some [(.int .u8 0), (.int .u64 0), (.int .u64 0), (.int .u64 0), (.int .u64 0), (.int .i32 0), (.int .i32 0), (.int .i32 0), (.int .i32 0), (.int .u8 0), (.int .u8 0), (.int .u8 0), (.int .i32 0), (.int .i32 0), (.int .i32 0), (.int .i32 0), (.int .u8 0), (.int .u8 0), (.int .u8 0), (.slice none 0 0), (.int .u16 0), (.int .u16 0)]⟩ := ⟨⟨_, Tryd.underlying42, ⟨_, rfl, rfl⟩⟩, Tryd.sizeOf42, fun w => ⟨_, Tryd.typeInfo42 w, rfl⟩, fun z hz w => by cases hz; exact ⟨_, Tryd.zeroValue42 w, rfl⟩⟩
theorem tok43 : TOk Tryd.prog 43 ⟨.struct [(5, 0), (29, 1), (29, 2), (41, 3)], 22, 112, some [(.int .u8 0), (.int .u64 0), (.int .u64 0), (.int .u64 0), (.int .u64 0), (.int .i32 0), (.int .i32 0), (.int .i32 0), (.int .i32 0), (.int .u8 0), (.int .u8 0), (.int .u8 0), (.int .i32 0), (.int .i32 0), (.int .i32 0), (.int .i32 0), (.int .u8 0), (.int .u8 0), (.int .u8 0), (.slice none 0 0), (.int .u16 0), (.int .u16 0)]⟩ := ⟨⟨_, Tryd.underlying43, ⟨_, rfl, rfl⟩⟩, Tryd.sizeOf43, fun w => ⟨_, Tryd.typeInfo43 w, rfl⟩, fun z hz w => by cases hz; exact ⟨_, Tryd.zeroValue43 w, rfl⟩⟩
theorem tok49 : TOk Tryd.prog 49 ⟨.int .i64, 1, 8, some [(.int .i64 0)]⟩ := ⟨⟨_, Tryd.underlying49, rfl⟩, Tryd.sizeOf49, fun w => ⟨_, Tryd.typeInfo49 w, rfl⟩, fun z hz w => by cases hz; exact ⟨_, Tryd.zeroValue49 w, rfl⟩⟩
theorem tok54 : TOk Tryd.prog 54 ⟨.slice 73, 1, 24, some [(.slice none 0 0)]⟩ := ⟨⟨_, Tryd.underlying54, rfl⟩, Tryd.sizeOf54, fun w => ⟨_, Tryd.typeInfo54 w, rfl⟩, fun z hz w => by cases hz; exact ⟨_, Tryd.zeroValue54 w, rfl⟩⟩
theorem tok55 : TOk Tryd.prog 55 ⟨.struct [(29, 0), (54, 1), (4, 2)], 3, 40, some [(.int .u64 0), (.slice none 0 0), (.bool false)]⟩ := ⟨⟨_, Tryd.underlying55, ⟨_, rfl, rfl⟩⟩, Tryd.sizeOf55, fun w => ⟨_, Tryd.typeInfo55 w, rfl⟩, fun z hz w => by cases hz; exact ⟨_, Tryd.zeroValue55 w, rfl⟩⟩
theorem tok56 : TOk Tryd.prog 56 ⟨.struct [(29, 0), (54, 1), (4, 2)], 3, 40, some [(.int .u64 0), (.slice none 0 0), (.bool false)]⟩ := ⟨⟨_, Tryd.underlying56, ⟨_, rfl, rfl⟩⟩, Tryd.sizeOf56, fun w => ⟨_, Tryd.typeInfo56 w, rfl⟩, fun z hz w => by cases hz; exact ⟨_, Tryd.zeroValue56 w, rfl⟩⟩
theorem tok57 : TOk Tryd.prog 57 ⟨.slice 64, 1, 24, some [(.slice none 0 0)]⟩ := ⟨⟨_, Tryd.underlying57, rfl⟩, Tryd.sizeOf57, fun w => ⟨_, Tryd.typeInfo57 w, rfl⟩, fun z hz w => by cases hz; exact ⟨_, Tryd.zeroValue57 w, rfl⟩⟩
theorem tok58 : TOk Tryd.prog 58 ⟨.slice 66, 1, 24, some [(.slice none 0 0)]⟩ := ⟨⟨_, Tryd.underlying58, rfl⟩, Tryd.sizeOf58, fun w => ⟨_, Tryd.typeInfo58 w, rfl⟩, fun z hz w => by cases hz; exact ⟨_, Tryd.zeroValue58 w, rfl⟩⟩
theorem tok59 : TOk Tryd.prog 59 ⟨.arr 2 23, 2, 16, some [(.pointer none), (.pointer none)]⟩ := ⟨⟨_, Tryd.underlying59, rfl⟩, Tryd.sizeOf59, fun w => ⟨_, Tryd.typeInfo59 w, rfl⟩, fun z hz w => by cases hz; exact ⟨_, Tryd.zeroValue59 w, rfl⟩⟩
theorem tok60 : TOk Tryd.prog 60 ⟨.slice 41, 1, 24, some [(.slice none 0 0)]⟩ := ⟨⟨_, Tryd.underlying60, rfl⟩, Tryd.sizeOf60, fun w => ⟨_, Tryd.typeInfo60 w, rfl⟩, fun z hz w => by cases hz; exact ⟨_, Tryd.zeroValue60 w, rfl⟩⟩
theorem tok62 : TOk Tryd.prog 62 ⟨.int .u8, 1, 1, some [(.int .u8 0)]⟩ := ⟨⟨_, Tryd.underlying62, rfl⟩, Tryd.sizeOf62, fun w => ⟨_, Tryd.typeInfo62 w, rfl⟩, fun z hz w => by cases hz; exact ⟨_, Tryd.zeroValue62 w, rfl⟩⟩
theorem tok63 : TOk Tryd.prog 63 ⟨.arr 2 62, 2, 2, some [(.int .u8 0), (.int .u8 0)]⟩ := ⟨⟨_, Tryd.underlying63, rfl⟩, Tryd.sizeOf63, fun w => ⟨_, Tryd.typeInfo63 w, rfl⟩, fun z hz w => by cases hz; exact ⟨_, Tryd.zeroValue63 w, rfl⟩⟩
theorem tok64 : TOk Tryd.prog 64 ⟨.arr 2 62, 2, 2, some [(.int .u8 0), (.int .u8 0)]⟩ := ⟨⟨_, Tryd.underlying64, rfl⟩, Tryd.sizeOf64, fun w => ⟨_, Tryd.typeInfo64 w, rfl⟩, fun z hz w => by cases hz; exact ⟨_, Tryd.zeroValue64 w, rfl⟩⟩
theorem tok65 : TOk Tryd.prog 65 ⟨.struct [(5, 0), (5, 1), (4, 2)], 3, 3, some [(.int .u8 0), (.int .u8 0), (.bool false)]⟩ := ⟨⟨_, Tryd.underlying65, ⟨_, rfl, rfl⟩⟩, Tryd.sizeOf65, fun w => ⟨_, Tryd.typeInfo65 w, rfl⟩, fun z hz w => by cases hz; exact ⟨_, Tryd.zeroValue65 w, rfl⟩⟩
theorem tok66 : TOk Tryd.prog 66 ⟨.struct [(5, 0), (5, 1), (4, 2)], 3, 3, some [(.int .u8 0), (.int .u8 0), (.bool false)]⟩ := ⟨⟨_, Tryd.underlying66, ⟨_, rfl, rfl⟩⟩, Tryd.sizeOf66, fun w => ⟨_, Tryd.typeInfo66 w, rfl⟩, fun z hz w => by cases hz; exact ⟨_, Tryd.zeroValue66 w, rfl⟩⟩
theorem tok70 : TOk Tryd.prog 70 ⟨.struct [(29, 0), (4, 1)], 2, 16, some [(.int .u64 0), (.bool false)]⟩ := ⟨⟨_, Tryd.underlying70, ⟨_, rfl, rfl⟩⟩, Tryd.sizeOf70, fun w => ⟨_, Tryd.typeInfo70 w, rfl⟩, fun z hz w => by cases hz; exact ⟨_, Tryd.zeroValue70 w, rfl⟩⟩
theorem tok71 : TOk Tryd.prog 71 ⟨.struct [(29, 0), (4, 1)], 2, 16, some [(.int .u64 0), (.bool false)]⟩ := ⟨⟨_, Tryd.underlying71, ⟨_, rfl, rfl⟩⟩, Tryd.sizeOf71, fun w => ⟨_, Tryd.typeInfo71 w, rfl⟩, fun z hz w => by cases hz; exact ⟨_, Tryd.zeroValue71 w, rfl⟩⟩
theorem tok72 : TOk Tryd.prog 72 ⟨.struct [(29, 0), (71, 1), (71, 3)], 5, 40, some [(.int .u64 0), (.int .u64 0), (.bool false), (.int .u64 0), (.bool false)]⟩ := ⟨⟨_, Tryd.underlying72, ⟨_, rfl, rfl⟩⟩, Tryd.sizeOf72, fun w => ⟨_, Tryd.typeInfo72 w, rfl⟩, fun z hz w => by cases hz; exact ⟨_, Tryd.zeroValue72 w, rfl⟩⟩
theorem tok73 : TOk Tryd.prog 73 ⟨.struct [(29, 0), (71, 1), (71, 3)], 5, 40, some [(.int .u64 0), (.int .u64 0), (.bool false), (.int .u64 0), (.bool false)]⟩ := ⟨⟨_, Tryd.underlying73, ⟨_, rfl, rfl⟩⟩, Tryd.sizeOf73, fun w => ⟨_, Tryd.typeInfo73 w, rfl⟩, fun z hz w => by cases hz; exact ⟨_, Tryd.zeroValue73 w, rfl⟩⟩
theorem tok74 : TOk Tryd.prog 74 ⟨.arr 2 29, 2, 16, some [(.int .u64 0), (.int .u64 0)]⟩ := ⟨⟨_, Tryd.underlying74, rfl⟩, Tryd.sizeOf74, fun w => ⟨_, Tryd.typeInfo74 w, rfl⟩, fun z hz w => by cases hz; exact ⟨_, Tryd.zeroValue74 w, rfl⟩⟩
theorem tok75 : TOk Tryd.prog 75 ⟨.arr 2 4, 2, 2, some [(.bool false), (.bool false)]⟩ := ⟨⟨_, Tryd.underlying75, rfl⟩, Tryd.sizeOf75, fun w => ⟨_, Tryd.typeInfo75 w, rfl⟩, fun z hz w => by cases hz; exact ⟨_, Tryd.zeroValue75 w, rfl⟩⟩
theorem tok76 : TOk Tryd.prog 76 ⟨.struct [(29, 0), (74, 1), (75, 3)], 5, 32, some [(.int .u64 0), (.int .u64 0), (.int .u64 0), (.bool false), (.bool false)]⟩ := ⟨⟨_, Tryd.underlying76, ⟨_, rfl, rfl⟩⟩, Tryd.sizeOf76, fun w => ⟨_, Tryd.typeInfo76 w, rfl⟩, fun z hz w => by cases hz; exact ⟨_, Tryd.zeroValue76 w, rfl⟩⟩
theorem tok77 : TOk Tryd.prog 77 ⟨.struct [(29, 0), (74, 1), (75, 3)], 5, 32, some [(.int .u64 0), (.int .u64 0), (.int .u64 0), (.bool false), (.bool false)]⟩ := ⟨⟨_, Tryd.underlying77, ⟨_, rfl, rfl⟩⟩, Tryd.sizeOf77, fun w => ⟨_, Tryd.typeInfo77 w, rfl⟩, fun z hz w => by cases hz; exact ⟨_, Tryd.zeroValue77 w, rfl⟩⟩
theorem tok85 : TOk Tryd.prog 85 ⟨.ptr 35, 1, 8, some [(.pointer none)]⟩ := ⟨⟨_, Tryd.underlying85, rfl⟩, Tryd.sizeOf85, fun w => ⟨_, Tryd.typeInfo85 w, rfl⟩, fun z hz w => by cases hz; exact ⟨_, Tryd.zeroValue85 w, rfl⟩⟩
theorem tok86 : TOk Tryd.prog 86 ⟨.struct [(21, 0), (21, 1), (21, 2), (21, 3), (5, 4), (5, 5)], 6, 20, some [(.int .i32 0), (.int .i32 0), (.int .i32 0), (.int .i32 0), (.int .u8 0), (.int .u8 0)]⟩ := ⟨⟨_, Tryd.underlying86, ⟨_, rfl, rfl⟩⟩, Tryd.sizeOf86, fun w => ⟨_, Tryd.typeInfo86 w, rfl⟩, fun z hz w => by cases hz; exact ⟨_, Tryd.zeroValue86 w, rfl⟩⟩
theorem tok87 : TOk Tryd.prog 87 ⟨.struct [(21, 0), (21, 1), (21, 2), (21, 3), (5, 4), (5, 5)], 6, 20, some [(.int .i32 0), (.int .i32 0), (.int .i32 0), (.int .i32 0), (.int .u8 0), (.int .u8 0)]⟩ := ⟨⟨_, Tryd.underlying87, ⟨_, rfl, rfl⟩⟩, Tryd.sizeOf87, fun w => ⟨_, Tryd.typeInfo87 w, rfl⟩, fun z hz w => by cases hz; exact ⟨_, Tryd.zeroValue87 w, rfl⟩⟩
theorem tok91 : TOk Tryd.prog 91 ⟨.struct [(21, 0), (21, 1), (21, 2), (21, 3)], 4, 16, some [(.int .i32 0), (.int .i32 0), (.int .i32 0), (.int .i32 0)]⟩ := ⟨⟨_, Tryd.underlying91, ⟨_, rfl, rfl⟩⟩, Tryd.sizeOf91, fun w => ⟨_, Tryd.typeInfo91 w, rfl⟩, fun z hz w => by cases hz; exact ⟨_, Tryd.zeroValue91 w, rfl⟩⟩
theorem tok92 : TOk Tryd.prog 92 ⟨.struct [(21, 0), (21, 1), (21, 2), (21, 3)], 4, 16, some [(.int .i32 0), (.int .i32 0), (.int .i32 0), (.int .i32 0)]⟩ := ⟨⟨_, Tryd.underlying92, ⟨_, rfl, rfl⟩⟩, Tryd.sizeOf92, fun w => ⟨_, Tryd.typeInfo92 w, rfl⟩, fun z hz w => by cases hz; exact ⟨_, Tryd.zeroValue92 w, rfl⟩⟩
theorem tok95 : TOk Tryd.prog 95 ⟨.ptr 41, 1, 8, some [(.pointer none)]⟩ := ⟨⟨_, Tryd.underlying95, rfl⟩, Tryd.sizeOf95, fun w => ⟨_, Tryd.typeInfo95 w, rfl⟩, fun z hz w => by cases hz; exact ⟨_, Tryd.zeroValue95 w, rfl⟩⟩
theorem tok98 : TOk Tryd.prog 98 ⟨.ptr 73, 1, 8, some [(.pointer none)]⟩ := ⟨⟨_, Tryd.underlying98, rfl⟩, Tryd.sizeOf98, fun w => ⟨_, Tryd.typeInfo98 w, rfl⟩, fun z hz w => by cases hz; exact ⟨_, Tryd.zeroValue98 w, rfl⟩⟩
theorem tok100 : TOk Tryd.prog 100 ⟨.ptr 71, 1, 8, some [(.pointer none)]⟩ := ⟨⟨_, Tryd.underlying100, rfl⟩, Tryd.sizeOf100, fun w => ⟨_, Tryd.typeInfo100 w, rfl⟩, fun z hz w => by cases hz; exact ⟨_, Tryd.zeroValue100 w, rfl⟩⟩
theorem tok101 : TOk Tryd.prog 101 ⟨.slice 5, 1, 24, some [(.slice none 0 0)]⟩ := ⟨⟨_, Tryd.underlying101, rfl⟩, Tryd.sizeOf101, fun w => ⟨_, Tryd.typeInfo101 w, rfl⟩, fun z hz w => by cases hz; exact ⟨_, Tryd.zeroValue101 w, rfl⟩⟩
theorem tok102 : TOk Tryd.prog 102 ⟨.struct [(101, 0)], 1, 24, some [(.slice none 0 0)]⟩ := ⟨⟨_, Tryd.underlying102, ⟨_, rfl, rfl⟩⟩, Tryd.sizeOf102, fun w => ⟨_, Tryd.typeInfo102 w, rfl⟩, fun z hz w => by cases hz; exact ⟨_, Tryd.zeroValue102 w, rfl⟩⟩
theorem tok103 : TOk Tryd.prog 103 ⟨.struct [(101, 0)], 1, 24, some [(.slice none 0 0)]⟩ := ⟨⟨_, Tryd.underlying103, ⟨_, rfl, rfl⟩⟩, Tryd.sizeOf103, fun w => ⟨_, Tryd.typeInfo103 w, rfl⟩, fun z hz w => by cases hz; exact ⟨_, Tryd.zeroValue103 w, rfl⟩⟩
theorem tok106 : TOk Tryd.prog 106 ⟨.ptr 103, 1, 8, some [(.pointer none)]⟩ := ⟨⟨_, Tryd.underlying106, rfl⟩, Tryd.sizeOf106, fun w => ⟨_, Tryd.typeInfo106 w, rfl⟩, fun z hz w => by cases hz; exact ⟨_, Tryd.zeroValue106 w, rfl⟩⟩
theorem tok107 : TOk Tryd.prog 107 ⟨.slice 21, 1, 24, some [(.slice none 0 0)]⟩ := ⟨⟨_, Tryd.underlying107, rfl⟩, Tryd.sizeOf107, fun w => ⟨_, Tryd.typeInfo107 w, rfl⟩, fun z hz w => by cases hz; exact ⟨_, Tryd.zeroValue107 w, rfl⟩⟩
theorem tok113 : TOk Tryd.prog 113 ⟨.arr 2 21, 2, 8, some [(.int .i32 0), (.int .i32 0)]⟩ := ⟨⟨_, Tryd.underlying113, rfl⟩, Tryd.sizeOf113, fun w => ⟨_, Tryd.typeInfo113 w, rfl⟩, fun z hz w => by cases hz; exact ⟨_, Tryd.zeroValue113 w, rfl⟩⟩
theorem tok114 : TOk Tryd.prog 114 ⟨.arr 7 113, 14, 56, some [(.int .i32 0), (.int .i32 0), (.int .i32 0), (.int .i32 0), (.int .i32 0), (.int .i32 0), (.int .i32 0), (.int .i32 0), (.int .i32 0), (.int .i32 0), (.int .i32 0), (.int .i32 0), (.int .i32 0), (.int .i32 0)]⟩ := ⟨⟨_, Tryd.underlying114, rfl⟩, Tryd.sizeOf114, fun w => ⟨_, Tryd.typeInfo114 w, rfl⟩, fun z hz w => by cases hz; exact ⟨_, Tryd.zeroValue114 w, rfl⟩⟩
theorem tok115 : TOk Tryd.prog 115 ⟨.arr 6 113, 12, 48, some [(.int .i32 0), (.int .i32 0), (.int .i32 0), (.int .i32 0), (.int .i32 0), (.int .i32 0), (.int .i32 0), (.int .i32 0), (.int .i32 0), (.int .i32 0), (.int .i32 0), (.int .i32 0)]⟩ := ⟨⟨_, Tryd.underlying115, rfl⟩, Tryd.sizeOf115, fun w => ⟨_, Tryd.typeInfo115 w, rfl⟩, fun z hz w => by cases hz; exact ⟨_, Tryd.zeroValue115 w, rfl⟩⟩
theorem tok117 : TOk Tryd.prog 117 ⟨.slice 113, 1, 24, some [(.slice none 0 0)]⟩ := ⟨⟨_, Tryd.underlying117, rfl⟩, Tryd.sizeOf117, fun w => ⟨_, Tryd.typeInfo117 w, rfl⟩, fun z hz w => by cases hz; exact ⟨_, Tryd.zeroValue117 w, rfl⟩⟩
theorem tok128 : TOk Tryd.prog 128 ⟨.struct [(2, 0), (2, 1)], 2, 16, some [(.int .i64 0), (.int .i64 0)]⟩ := ⟨⟨_, Tryd.underlying128, ⟨_, rfl, rfl⟩⟩, Tryd.sizeOf128, fun w => ⟨_, Tryd.typeInfo128 w, rfl⟩, fun z hz w => by cases hz; exact ⟨_, Tryd.zeroValue128 w, rfl⟩⟩
theorem tok129 : TOk Tryd.prog 129 ⟨.struct [(2, 0), (2, 1)], 2, 16, some [(.int .i64 0), (.int .i64 0)]⟩ := ⟨⟨_, Tryd.underlying129, ⟨_, rfl, rfl⟩⟩, Tryd.sizeOf129, fun w => ⟨_, Tryd.typeInfo129 w, rfl⟩, fun z hz w => by cases hz; exact ⟨_, Tryd.zeroValue129 w, rfl⟩⟩
theorem tok130 : TOk Tryd.prog 130 ⟨.struct [(29, 0)], 1, 8, some [(.int .u64 0)]⟩ := ⟨⟨_, Tryd.underlying130, ⟨_, rfl, rfl⟩⟩, Tryd.sizeOf130, fun w => ⟨_, Tryd.typeInfo130 w, rfl⟩, fun z hz w => by cases hz; exact ⟨_, Tryd.zeroValue130 w, rfl⟩⟩
theorem tok131 : TOk Tryd.prog 131 ⟨.struct [(29, 0)], 1, 8, some [(.int .u64 0)]⟩ := ⟨⟨_, Tryd.underlying131, ⟨_, rfl, rfl⟩⟩, Tryd.sizeOf131, fun w => ⟨_, Tryd.typeInfo131 w, rfl⟩, fun z hz w => by cases hz; exact ⟨_, Tryd.zeroValue131 w, rfl⟩⟩
theorem tok144 : TOk Tryd.prog 144 ⟨.int .u64, 1, 8, some [(.int .u64 0)]⟩ := ⟨⟨_, Tryd.underlying144, rfl⟩, Tryd.sizeOf144, fun w => ⟨_, Tryd.typeInfo144 w, rfl⟩, fun z hz w => by cases hz; exact ⟨_, Tryd.zeroValue144 w, rfl⟩⟩
theorem tok160 : TOk Tryd.prog 160 ⟨.int .u32, 1, 4, some [(.int .u32 0)]⟩ := ⟨⟨_, Tryd.underlying160, rfl⟩, Tryd.sizeOf160, fun w => ⟨_, Tryd.typeInfo160 w, rfl⟩, fun z hz w => by cases hz; exact ⟨_, Tryd.zeroValue160 w, rfl⟩⟩
theorem tok176 : TOk Tryd.prog 176 ⟨.ptr 5, 1, 8, some [(.pointer none)]⟩ := ⟨⟨_, Tryd.underlying176, rfl⟩, Tryd.sizeOf176, fun w => ⟨_, Tryd.typeInfo176 w, rfl⟩, fun z hz w => by cases hz; exact ⟨_, Tryd.zeroValue176 w, rfl⟩⟩
theorem ctt_ok : CTabOk Tryd.prog TT := by
  intro x hx
  simp only [TT, List.mem_cons, List.not_mem_nil, or_false] at hx
  rcases hx with rfl | rfl | rfl | rfl | rfl | rfl | rfl | rfl | rfl | rfl | rfl | rfl | rfl | rfl | rfl | rfl | rfl | rfl | rfl | rfl | rfl | rfl | rfl | rfl | rfl | rfl | rfl | rfl | rfl | rfl | rfl | rfl | rfl | rfl | rfl | rfl | rfl | rfl | rfl | rfl | rfl | rfl | rfl | rfl | rfl | rfl | rfl | rfl | rfl | rfl | rfl | rfl | rfl | rfl | rfl | rfl | rfl | rfl | rfl | rfl | rfl | rfl | rfl | rfl | rfl | rfl | rfl | rfl | rfl
  · exact ⟨by kernel_rfl, by kernel_rfl⟩
  · exact ⟨by kernel_rfl, by kernel_rfl⟩
  · exact ⟨by kernel_rfl, by kernel_rfl⟩
  · exact ⟨by kernel_rfl, by kernel_rfl⟩
  · exact ⟨by kernel_rfl, by kernel_rfl⟩
  · exact ⟨by kernel_rfl, by kernel_rfl⟩
  · exact ⟨by kernel_rfl, by kernel_rfl⟩
  · exact ⟨by kernel_rfl, by kernel_rfl⟩
  · exact ⟨by kernel_rfl, by kernel_rfl⟩
  · exact ⟨by kernel_rfl, by kernel_rfl⟩
  · exact ⟨by kernel_rfl, by kernel_rfl⟩
  · exact ⟨by kernel_rfl, by kernel_rfl⟩
  · exact ⟨by kernel_rfl, by kernel_rfl⟩
  · exact ⟨by kernel_rfl, by kernel_rfl⟩
  · exact ⟨by kernel_rfl, by kernel_rfl⟩
  · exact ⟨by kernel_rfl, by kernel_rfl⟩
  · exact ⟨by kernel_rfl, by kernel_rfl⟩
  · exact ⟨by kernel_rfl, by kernel_rfl⟩
  · exact ⟨by kernel_rfl, by kernel_rfl⟩
  · exact ⟨by kernel_rfl, by kernel_rfl⟩
  · exact ⟨by kernel_rfl, by kernel_rfl⟩
  · exact ⟨by kernel_rfl, by kernel_rfl⟩
  · exact ⟨by kernel_rfl, by kernel_rfl⟩
  · exact ⟨by kernel_rfl, by kernel_rfl⟩
  · exact ⟨by kernel_rfl, by kernel_rfl⟩
  · exact ⟨by kernel_rfl, by kernel_rfl⟩
  · exact ⟨by kernel_rfl, by kernel_rfl⟩
  · exact ⟨by kernel_rfl, by kernel_rfl⟩
  · exact ⟨by kernel_rfl, by kernel_rfl⟩
  · exact ⟨by kernel_rfl, by kernel_rfl⟩
  · exact ⟨by kernel_rfl, by kernel_rfl⟩
  · exact ⟨by kernel_rfl, by kernel_rfl⟩
  · exact ⟨by kernel_rfl, by kernel_rfl⟩
  · exact ⟨by kernel_rfl, by kernel_rfl⟩
  · exact ⟨by kernel_rfl, by kernel_rfl⟩
  · exact ⟨by kernel_rfl, by kernel_rfl⟩
  · exact ⟨by kernel_rfl, by kernel_rfl⟩
  · exact ⟨by kernel_rfl, by kernel_rfl⟩
  · exact ⟨by kernel_rfl, by kernel_rfl⟩
  · exact ⟨by kernel_rfl, by kernel_rfl⟩
  · exact ⟨by kernel_rfl, by kernel_rfl⟩
  · exact ⟨by kernel_rfl, by kernel_rfl⟩
  · exact ⟨by kernel_rfl, by kernel_rfl⟩
  · exact ⟨by kernel_rfl, by kernel_rfl⟩
  · exact ⟨by kernel_rfl, by kernel_rfl⟩
  · exact ⟨by kernel_rfl, by kernel_rfl⟩
  · exact ⟨by kernel_rfl, by kernel_rfl⟩
  · exact ⟨by kernel_rfl, by kernel_rfl⟩
  · exact ⟨by kernel_rfl, by kernel_rfl⟩
  · exact ⟨by kernel_rfl, by kernel_rfl⟩
  · exact ⟨by kernel_rfl, by kernel_rfl⟩
  · exact ⟨by kernel_rfl, by kernel_rfl⟩
  · exact ⟨by kernel_rfl, by kernel_rfl⟩
  · exact ⟨by kernel_rfl, by kernel_rfl⟩
  · exact ⟨by kernel_rfl, by kernel_rfl⟩
  · exact ⟨by kernel_rfl, by kernel_rfl⟩
  · exact ⟨by kernel_rfl, by kernel_rfl⟩
  · exact ⟨by kernel_rfl, by kernel_rfl⟩
  · exact ⟨by kernel_rfl, by kernel_rfl⟩
  · exact ⟨by kernel_rfl, by kernel_rfl⟩
  · exact ⟨by kernel_rfl, by kernel_rfl⟩
  · exact ⟨by kernel_rfl, by kernel_rfl⟩
  · exact ⟨by kernel_rfl, by kernel_rfl⟩
  · exact ⟨by kernel_rfl, by kernel_rfl⟩
  · exact ⟨by kernel_rfl, by kernel_rfl⟩
  · exact ⟨by kernel_rfl, by kernel_rfl⟩
  · exact ⟨by kernel_rfl, by kernel_rfl⟩
  · exact ⟨by kernel_rfl, by kernel_rfl⟩
  · exact ⟨by kernel_rfl, by kernel_rfl⟩
theorem tt_closed : structsIn TT TT = true := by kernel_rfl
theorem tt_ok : TabOk Tryd.prog TT := by
  intro x hx
  simp only [TT, List.mem_cons, List.not_mem_nil, or_false] at hx
  rcases hx with rfl | rfl | rfl | rfl | rfl | rfl | rfl | rfl | rfl | rfl | rfl | rfl | rfl | rfl | rfl | rfl | rfl | rfl | rfl | rfl | rfl | rfl | rfl | rfl | rfl | rfl | rfl | rfl | rfl | rfl | rfl | rfl | rfl | rfl | rfl | rfl | rfl | rfl | rfl | rfl | rfl | rfl | rfl | rfl | rfl | rfl | rfl | rfl | rfl | rfl | rfl | rfl | rfl | rfl | rfl | rfl | rfl | rfl | rfl | rfl | rfl | rfl | rfl | rfl | rfl | rfl | rfl | rfl | rfl
  · exact tok2
  · exact tok3
  · exact tok4
  · exact tok5
  · exact tok9
  · exact tok12
  · exact tok21
  · exact tok22
  · exact tok23
  · exact tok28
  · exact tok29
  · exact tok30
  · exact tok31
  · exact tok32
  · exact tok34
  · exact tok35
  · exact tok36
  · exact tok37
  · exact tok38
  · exact tok39
  · exact tok40
  · exact tok41
  · exact tok42
  · exact tok43
  · exact tok49
  · exact tok54
  · exact tok55
  · exact tok56
  · exact tok57
  · exact tok58
  · exact tok59
  · exact tok60
  · exact tok62
  · exact tok63
  · exact tok64
  · exact tok65
  · exact tok66
  · exact tok70
  · exact tok71
  · exact tok72
  · exact tok73
  · exact tok74
  · exact tok75
  · exact tok76
  · exact tok77
  · exact tok85
  · exact tok86
  · exact tok87
  · exact tok91
  · exact tok92
  · exact tok95
  · exact tok98
  · exact tok100
  · exact tok101
  · exact tok102
  · exact tok103
  · exact tok106
  · exact tok107
  · exact tok113
  · exact tok114
  · exact tok115
  · exact tok117
  · exact tok128
  · exact tok129
  · exact tok130
  · exact tok131
  · exact tok144
  · exact tok160
  · exact tok176
theorem tt_eq : eqOkB Tryd.prog TT = true := by kernel_rfl
theorem tt_one : oneB TT = true := by kernel_rfl


theorem sV {w0 : World} {A : List Nat} {n : Nat} {E : List (Nat × Value)} {L : List Blk} {op : Op} {ty : TypeId} {v : Value} (h : stepV TT E op = some v) : Val Tryd.prog w0 A n E L op ty v := stepV_ok tt_ok h
theorem wP {ops : Array Oper} {Q : Exit → Act → World → Prop} {w0 : World} {A : List Nat} {n : Nat} {rest : List Oper} {E : List (Nat × Value)} {L : List Blk} {d : Nat} {op : Op} {ty : TypeId} {pos : String} {aft : Array Edge} {v : Value} (h : stepV TT E op = some v) (hd : Nat.blt d n = true) (k : WL Tryd.prog ops Q w0 A n rest ((d, v) :: E) L) :
    WL Tryd.prog ops Q w0 A n (⟨some d, op, ty, pos, aft, none⟩ :: rest) E L := wl_pure tt_ok h hd k
theorem qP {ops : Array Oper} {Q : Exit → Act → World → Prop} {w0 : World} {A : List Nat} {n : Nat} {rest : List Oper} {E : List (Nat × Value)} {L : List Blk} {d : Nat} {op : Op} {ty : TypeId} {pos : String} {aft : Array Edge} {v : Value} (h : stepV TT E op = some v) (hd : Nat.blt d n = true) (k : WQ Tryd.prog ops Q w0 A n rest ((d, v) :: E) L) :
    WQ Tryd.prog ops Q w0 A n (⟨some d, op, ty, pos, aft, none⟩ :: rest) E L := wq_pure tt_ok h hd k
theorem wM {ops : Array Oper} {Q : Exit → Act → World → Prop} {w0 : World} {A : List Nat} {n : Nat} {E E' : List (Nat × Value)} {L : List Blk} {l l' : List Oper} (k : Nat) (h : pureS TT n ops k l E = some (l', E')) (K : WL Tryd.prog ops Q w0 A n l' E' L) : WL Tryd.prog ops Q w0 A n l E L := wl_many tt_ok k h K
theorem qM {ops : Array Oper} {Q : Exit → Act → World → Prop} {w0 : World} {A : List Nat} {n : Nat} {E E' : List (Nat × Value)} {L : List Blk} {l l' : List Oper} (k : Nat) (h : pureS TT n ops k l E = some (l', E')) (K : WQ Tryd.prog ops Q w0 A n l' E' L) : WQ Tryd.prog ops Q w0 A n l E L := wq_many tt_ok k h K
theorem kM {ops : Array Oper} {Q : Exit → Act → World → Prop} {w0 : World} {A : List Nat} {n : Nat} {E E' : List (Nat × Value)} {L : List Blk} {Ls : List Blk} {eff late wt dn dn' todo todo' : List Nat} (hL : ∃ R, L.Perm (Ls ++ R)) (k : Nat) (h : pureK TT n ops eff k todo dn E = some (todo', dn', E')) (K : WK2 Tryd.prog ops Q w0 A n Ls eff late wt dn' todo' E' L) : WK2 Tryd.prog ops Q w0 A n Ls eff late wt dn todo E L := k_many tt_ok hL k h K

theorem pE {w0 : World} {n t : Nat} {E : List (Nat × Value)} {L : List Blk} {fn : Func} {v : Value} (hr : fn.results = [ResultVar.tmp t].toArray) (h : lookO E t = some v) : WX (bodyPost Tryd.prog fn (fun e w' => e = .returned v ∧ Inv w0 [] w' [])) w0 [] n .ret E L := wx_pf tt_ok (.inl rfl) hr (Res.tmp h Res.nil) rfl
theorem wE {w0 : World} {A : List Nat} {n : Nat} {E : List (Nat × Value)} {L : List Blk} {fn : Func} {rs : List ResultVar} {vs : List Value} {S : Value → (List Blk → List Blk) → Prop} {D : List Blk → List Blk} (hr : fn.results = rs.toArray) (h : Res TT E L rs vs) (hS : S (resV vs) D) (hL : ∃ R, L.Perm (D [] ++ R)) (hD : ∀ F, D [] ++ F = D F := by intro F; simp) :
    WX (bodyPost Tryd.prog fn (fun e w' => ∃ v L', e = .returned v ∧ Inv w0 A w' L' ∧ ∃ D, S v D ∧ L' = D [] ∧ ∀ F, D [] ++ F = D F)) w0 A n .ret E L := wx_spD tt_ok (.inl rfl) hr h hS hD hL
theorem rs1 {E : List (Nat × Value)} {L : List Blk} {t : Nat} {v : Value} (h : lookO E t = some v) : Res TT E L [.tmp t] [v] := Res.tmp h Res.nil
theorem rs2 {E : List (Nat × Value)} {L : List Blk} {t u : Nat} {v x : Value} (h : lookO E t = some v) (h' : lookO E u = some x) : Res TT E L [.tmp t, .tmp u] [v, x] := Res.tmp h (rs1 h')
theorem wLd {ops : Array Oper} {rest : List Oper} {Q : Exit → Act → World → Prop} {w0 : World} {A : List Nat} {n : Nat} {E : List (Nat × Value)} {L : List Blk} {t : TypeId} {x : Operand} {b o d : Nat} {c : List Value} {t' : TypeId} {fz : Nat × Nat} {ty : TypeId} {v : Value} {pos : String} {aft : Array Edge} (hx : evO E x = some (.pointer (some ⟨b, o, none⟩))) (hm : (⟨b, c, t', fz⟩ : Blk) ∈ L) (hp : partV TT t c o = some v) (hd : Nat.blt d n = true) (k : WL Tryd.prog ops Q w0 A n rest ((d, v) :: E) L) : WL Tryd.prog ops Q w0 A n (⟨some d, .load t x, ty, pos, aft, none⟩ :: rest) E L := wl_val (val_load tt_ok hx hm hp) hd k
theorem qLd {ops : Array Oper} {rest : List Oper} {Q : Exit → Act → World → Prop} {w0 : World} {A : List Nat} {n : Nat} {E : List (Nat × Value)} {L : List Blk} {t : TypeId} {x : Operand} {b o d : Nat} {c : List Value} {t' : TypeId} {fz : Nat × Nat} {ty : TypeId} {v : Value} {pos : String} {aft : Array Edge} (hx : evO E x = some (.pointer (some ⟨b, o, none⟩))) (hm : (⟨b, c, t', fz⟩ : Blk) ∈ L) (hp : partV TT t c o = some v) (hd : Nat.blt d n = true) (k : WQ Tryd.prog ops Q w0 A n rest ((d, v) :: E) L) : WQ Tryd.prog ops Q w0 A n (⟨some d, .load t x, ty, pos, aft, none⟩ :: rest) E L := wq_val (val_load tt_ok hx hm hp) hd k
theorem lSt {ops : Array Oper} {rest : List Oper} {Q : Exit → Act → World → Prop} {w0 : World} {A : List Nat} {n : Nat} {E : List (Nat × Value)} {L : List Blk} {t : TypeId} {x y : Operand} {b o : Nat} {c c' us : List Value} {t' : TypeId} {ty : TypeId} {v : Value} {i : TI} {pos : String} {aft : Array Edge} {L' : List Blk} (hu : Upd L ⟨b, c, t', (0, 0)⟩ ⟨b, c', t', (0, 0)⟩ L') (k : WL Tryd.prog ops Q w0 A n rest E L')
    (hx : evO E x = some (.pointer (some ⟨b, o, none⟩)) := by exact rfl) (hy : evO E y = some v := by exact rfl) (hl : lookT TT t = some i := by exact rfl) (hv : normO (cellsL v) = some us := by exact rfl) (hlen : Nat.beq us.length i.size = true := by exact rfl) (h1 : allOne us = true := by exact rfl) (hs : setO c o us = some c' := by exact rfl) : WL Tryd.prog ops Q w0 A n (⟨none, .store t x y, ty, pos, aft, none⟩ :: rest) E L := wl_store tt_ok hx hu hy hl hv hlen h1 hs k

end Go.Proofs.YthlnellnlhkphaaDoor
