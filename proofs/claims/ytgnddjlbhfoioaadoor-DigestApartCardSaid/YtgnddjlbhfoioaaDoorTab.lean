/- The program's types in a table of the engine's kind, each row proved against the program. -/
import Derived.Test.YtgnddjlbhfoioaaDoorProg
import Derived.Test.YtgnddjlbhfoioaaDoorEng2
import Derived.KernelRfl
namespace Go.Proofs.YtgnddjlbhfoioaaDoor
open Go.Proofs.YtgnddjlbhfoioaaDoor.Eng Go.RowKit

def TT : List (Nat × TI) :=
  [(2, ⟨.int .i64, 1, 8, some [(.int .i64 0)]⟩),
   (3, ⟨.int .i64, 1, 8, some [(.int .i64 0)]⟩),
   (4, ⟨.bool, 1, 1, some [(.bool false)]⟩),
   (5, ⟨.int .u8, 1, 1, some [(.int .u8 0)]⟩),
   (9, ⟨.str, 1, 16, some [(.string ByteArray.empty)]⟩),
   (12, ⟨.int .u64, 1, 8, some [(.int .u64 0)]⟩),
   (21, ⟨.int .i32, 1, 4, some [(.int .i32 0)]⟩),
   (22, ⟨.int .u64, 1, 8, some [(.int .u64 0)]⟩),
   (23, ⟨.struct [(21, 0), (21, 1), (21, 2), (21, 3), (5, 4), (5, 5), (5, 6)], 7, 20, some [(.int .i32 0), (.int .i32 0), (.int .i32 0), (.int .i32 0), (.int .u8 0), (.int .u8 0), (.int .u8 0)]⟩),
   (24, ⟨.struct [(21, 0), (21, 1), (21, 2), (21, 3), (5, 4), (5, 5), (5, 6)], 7, 20, some [(.int .i32 0), (.int .i32 0), (.int .i32 0), (.int .i32 0), (.int .u8 0), (.int .u8 0), (.int .u8 0)]⟩),
   (25, ⟨.arr 2 24, 14, 40, some [(.int .i32 0), (.int .i32 0), (.int .i32 0), (.int .i32 0), (.int .u8 0), (.int .u8 0), (.int .u8 0), (.int .i32 0), (.int .i32 0), (.int .i32 0), (.int .i32 0), (.int .u8 0), (.int .u8 0), (.int .u8 0)]⟩),
   (26, ⟨.slice 64, 1, 24, some [(.slice none 0 0)]⟩),
   (27, ⟨.int .u16, 1, 2, some [(.int .u16 0)]⟩),
   (28, ⟨.arr 2 27, 2, 4, some [(.int .u16 0), (.int .u16 0)]⟩),
   (29, ⟨.struct [(22, 0), (22, 1), (25, 2), (26, 16), (28, 17)], 19, 88, some [(.int .u64 0), (.int .u64 0), (.int .i32 0), (.int .i32 0), (.int .i32 0), (.int .i32 0), (.int .u8 0), (.int .u8 0), (.int .u8 0), (.int .i32 0), (.int .i32 0), (.int .i32 0), (.int .i32 0), (.int .u8 0), (.int .u8 0), (.int .u8 0), (.slice none 0 0), (.int .u16 0), (.int .u16 0)]⟩),
   (30, ⟨.struct [(22, 0), (22, 1), (25, 2), (26, 16), (28, 17)], 19, 88, some [(.int .u64 0), (.int .u64 0), (.int .i32 0), (.int .i32 0), (.int .i32 0), (.int .i32 0), (.int .u8 0), (.int .u8 0), (.int .u8 0), (.int .i32 0), (.int .i32 0), (.int .i32 0), (.int .i32 0), (.int .u8 0), (.int .u8 0), (.int .u8 0), (.slice none 0 0), (.int .u16 0), (.int .u16 0)]⟩),
   (35, ⟨.int .u8, 1, 1, some [(.int .u8 0)]⟩),
   (36, ⟨.arr 2 35, 2, 2, some [(.int .u8 0), (.int .u8 0)]⟩),
   (37, ⟨.arr 2 35, 2, 2, some [(.int .u8 0), (.int .u8 0)]⟩),
   (38, ⟨.slice 37, 1, 24, some [(.slice none 0 0)]⟩),
   (42, ⟨.struct [(9, 0), (9, 1), (27, 2)], 3, 40, some [(.string ByteArray.empty), (.string ByteArray.empty), (.int .u16 0)]⟩),
   (43, ⟨.struct [(9, 0), (9, 1), (27, 2)], 3, 40, some [(.string ByteArray.empty), (.string ByteArray.empty), (.int .u16 0)]⟩),
   (45, ⟨.struct [(9, 0), (38, 1), (27, 2), (5, 3), (37, 4)], 6, 48, some [(.string ByteArray.empty), (.slice none 0 0), (.int .u16 0), (.int .u8 0), (.int .u8 0), (.int .u8 0)]⟩),
   (46, ⟨.struct [(9, 0), (38, 1), (27, 2), (5, 3), (37, 4)], 6, 48, some [(.string ByteArray.empty), (.slice none 0 0), (.int .u16 0), (.int .u8 0), (.int .u8 0), (.int .u8 0)]⟩),
   (47, ⟨.slice 5, 1, 24, some [(.slice none 0 0)]⟩),
   (54, ⟨.int .i64, 1, 8, some [(.int .i64 0)]⟩),
   (56, ⟨.struct [(47, 0)], 1, 24, some [(.slice none 0 0)]⟩),
   (57, ⟨.struct [(47, 0)], 1, 24, some [(.slice none 0 0)]⟩),
   (60, ⟨.ptr 57, 1, 8, some [(.pointer none)]⟩),
   (61, ⟨.slice 21, 1, 24, some [(.slice none 0 0)]⟩),
   (63, ⟨.struct [(21, 0), (21, 1), (21, 2), (21, 3), (5, 4), (5, 5)], 6, 20, some [(.int .i32 0), (.int .i32 0), (.int .i32 0), (.int .i32 0), (.int .u8 0), (.int .u8 0)]⟩),
   (64, ⟨.struct [(21, 0), (21, 1), (21, 2), (21, 3), (5, 4), (5, 5)], 6, 20, some [(.int .i32 0), (.int .i32 0), (.int .i32 0), (.int .i32 0), (.int .u8 0), (.int .u8 0)]⟩),
   (72, ⟨.arr 2 21, 2, 8, some [(.int .i32 0), (.int .i32 0)]⟩),
   (73, ⟨.arr 7 72, 14, 56, some [(.int .i32 0), (.int .i32 0), (.int .i32 0), (.int .i32 0), (.int .i32 0), (.int .i32 0), (.int .i32 0), (.int .i32 0), (.int .i32 0), (.int .i32 0), (.int .i32 0), (.int .i32 0), (.int .i32 0), (.int .i32 0)]⟩),
   (74, ⟨.arr 6 72, 12, 48, some [(.int .i32 0), (.int .i32 0), (.int .i32 0), (.int .i32 0), (.int .i32 0), (.int .i32 0), (.int .i32 0), (.int .i32 0), (.int .i32 0), (.int .i32 0), (.int .i32 0), (.int .i32 0)]⟩),
   (76, ⟨.slice 72, 1, 24, some [(.slice none 0 0)]⟩),
   (82, ⟨.int .u64, 1, 8, some [(.int .u64 0)]⟩),
   (85, ⟨.int .u32, 1, 4, some [(.int .u32 0)]⟩),
   (99, ⟨.ptr 5, 1, 8, some [(.pointer none)]⟩)]

theorem tok2 : TOk Tryd.prog 2 ⟨.int .i64, 1, 8, some [(.int .i64 0)]⟩ := ⟨⟨_, Tryd.underlying2, rfl⟩, Tryd.sizeOf2, fun w => ⟨_, Tryd.typeInfo2 w, rfl⟩, fun z hz w => by cases hz; exact ⟨_, Tryd.zeroValue2 w, rfl⟩⟩
theorem tok3 : TOk Tryd.prog 3 ⟨.int .i64, 1, 8, some [(.int .i64 0)]⟩ := ⟨⟨_, Tryd.underlying3, rfl⟩, Tryd.sizeOf3, fun w => ⟨_, Tryd.typeInfo3 w, rfl⟩, fun z hz w => by cases hz; exact ⟨_, Tryd.zeroValue3 w, rfl⟩⟩
theorem tok4 : TOk Tryd.prog 4 ⟨.bool, 1, 1, some [(.bool false)]⟩ := ⟨⟨_, Tryd.underlying4, rfl⟩, Tryd.sizeOf4, fun w => ⟨_, Tryd.typeInfo4 w, rfl⟩, fun z hz w => by cases hz; exact ⟨_, Tryd.zeroValue4 w, rfl⟩⟩
theorem tok5 : TOk Tryd.prog 5 ⟨.int .u8, 1, 1, some [(.int .u8 0)]⟩ := ⟨⟨_, Tryd.underlying5, rfl⟩, Tryd.sizeOf5, fun w => ⟨_, Tryd.typeInfo5 w, rfl⟩, fun z hz w => by cases hz; exact ⟨_, Tryd.zeroValue5 w, rfl⟩⟩
theorem tok9 : TOk Tryd.prog 9 ⟨.str, 1, 16, some [(.string ByteArray.empty)]⟩ := ⟨⟨_, Tryd.underlying9, rfl⟩, Tryd.sizeOf9, fun w => ⟨_, Tryd.typeInfo9 w, rfl⟩, fun z hz w => by cases hz; exact ⟨_, Tryd.zeroValue9 w, rfl⟩⟩
theorem tok12 : TOk Tryd.prog 12 ⟨.int .u64, 1, 8, some [(.int .u64 0)]⟩ := ⟨⟨_, Tryd.underlying12, rfl⟩, Tryd.sizeOf12, fun w => ⟨_, Tryd.typeInfo12 w, rfl⟩, fun z hz w => by cases hz; exact ⟨_, Tryd.zeroValue12 w, rfl⟩⟩
theorem tok21 : TOk Tryd.prog 21 ⟨.int .i32, 1, 4, some [(.int .i32 0)]⟩ := ⟨⟨_, Tryd.underlying21, rfl⟩, Tryd.sizeOf21, fun w => ⟨_, Tryd.typeInfo21 w, rfl⟩, fun z hz w => by cases hz; exact ⟨_, Tryd.zeroValue21 w, rfl⟩⟩
theorem tok22 : TOk Tryd.prog 22 ⟨.int .u64, 1, 8, some [(.int .u64 0)]⟩ := ⟨⟨_, Tryd.underlying22, rfl⟩, Tryd.sizeOf22, fun w => ⟨_, Tryd.typeInfo22 w, rfl⟩, fun z hz w => by cases hz; exact ⟨_, Tryd.zeroValue22 w, rfl⟩⟩
theorem tok23 : TOk Tryd.prog 23 ⟨.struct [(21, 0), (21, 1), (21, 2), (21, 3), (5, 4), (5, 5), (5, 6)], 7, 20, some [(.int .i32 0), (.int .i32 0), (.int .i32 0), (.int .i32 0), (.int .u8 0), (.int .u8 0), (.int .u8 0)]⟩ := ⟨⟨_, Tryd.underlying23, ⟨_, rfl, rfl⟩⟩, Tryd.sizeOf23, fun w => ⟨_, Tryd.typeInfo23 w, rfl⟩, fun z hz w => by cases hz; exact ⟨_, Tryd.zeroValue23 w, rfl⟩⟩
theorem tok24 : TOk Tryd.prog 24 ⟨.struct [(21, 0), (21, 1), (21, 2), (21, 3), (5, 4), (5, 5), (5, 6)], 7, 20, some [(.int .i32 0), (.int .i32 0), (.int .i32 0), (.int .i32 0), (.int .u8 0), (.int .u8 0), (.int .u8 0)]⟩ := ⟨⟨_, Tryd.underlying24, ⟨_, rfl, rfl⟩⟩, Tryd.sizeOf24, fun w => ⟨_, Tryd.typeInfo24 w, rfl⟩, fun z hz w => by cases hz; exact ⟨_, Tryd.zeroValue24 w, rfl⟩⟩
theorem tok25 : TOk Tryd.prog 25 ⟨.arr 2 24, 14, 40, some [(.int .i32 0), (.int .i32 0), (.int .i32 0), (.int .i32 0), (.int .u8 0), (.int .u8 0), (.int .u8 0), (.int .i32 0), (.int .i32 0), (.int .i32 0), (.int .i32 0), (.int .u8 0), (.int .u8 0), (.int .u8 0)]⟩ := ⟨⟨_, Tryd.underlying25, rfl⟩, Tryd.sizeOf25, fun w => ⟨_, Tryd.typeInfo25 w, rfl⟩, fun z hz w => by cases hz; exact ⟨_, Tryd.zeroValue25 w, rfl⟩⟩
theorem tok26 : TOk Tryd.prog 26 ⟨.slice 64, 1, 24, some [(.slice none 0 0)]⟩ := ⟨⟨_, Tryd.underlying26, rfl⟩, Tryd.sizeOf26, fun w => ⟨_, Tryd.typeInfo26 w, rfl⟩, fun z hz w => by cases hz; exact ⟨_, Tryd.zeroValue26 w, rfl⟩⟩
theorem tok27 : TOk Tryd.prog 27 ⟨.int .u16, 1, 2, some [(.int .u16 0)]⟩ := ⟨⟨_, Tryd.underlying27, rfl⟩, Tryd.sizeOf27, fun w => ⟨_, Tryd.typeInfo27 w, rfl⟩, fun z hz w => by cases hz; exact ⟨_, Tryd.zeroValue27 w, rfl⟩⟩
theorem tok28 : TOk Tryd.prog 28 ⟨.arr 2 27, 2, 4, some [(.int .u16 0), (.int .u16 0)]⟩ := ⟨⟨_, Tryd.underlying28, rfl⟩, Tryd.sizeOf28, fun w => ⟨_, Tryd.typeInfo28 w, rfl⟩, fun z hz w => by cases hz; exact ⟨_, Tryd.zeroValue28 w, rfl⟩⟩
theorem tok29 : TOk Tryd.prog 29 ⟨.struct [(22, 0), (22, 1), (25, 2), (26, 16), (28, 17)], 19, 88, some [(.int .u64 0), (.int .u64 0), (.int .i32 0), (.int .i32 0), (.int .i32 0), (.int .i32 0), (.int .u8 0), (.int .u8 0), (.int .u8 0), (.int .i32 0), (.int .i32 0), (.int .i32 0), (.int .i32 0), (.int .u8 0), (.int .u8 0), (.int .u8 0), (.slice none 0 0), (.int .u16 0), (.int .u16 0)]⟩ := ⟨⟨_, Tryd.underlying29, ⟨_, rfl, rfl⟩⟩, Tryd.sizeOf29, fun w => ⟨_, Tryd.typeInfo29 w, rfl⟩, fun z hz w => by cases hz; exact ⟨_, Tryd.zeroValue29 w, rfl⟩⟩
theorem tok30 : TOk Tryd.prog 30 ⟨.struct [(22, 0), (22, 1), (25, 2), (26, 16), (28, 17)], 19, 88, some [(.int .u64 0), (.int .u64 0), (.int .i32 0), (.int .i32 0), (.int .i32 0), (.int .i32 0), (.int .u8 0), (.int .u8 0), (.int .u8 0), (.int .i32 0), (.int .i32 0), (.int .i32 0), (.int .i32 0), (.int .u8 0), (.int .u8 0), (.int .u8 0), (.slice none 0 0), (.int .u16 0), (.int .u16 0)]⟩ := ⟨⟨_, Tryd.underlying30, ⟨_, rfl, rfl⟩⟩, Tryd.sizeOf30, fun w => ⟨_, Tryd.typeInfo30 w, rfl⟩, fun z hz w => by cases hz; exact ⟨_, Tryd.zeroValue30 w, rfl⟩⟩
theorem tok35 : TOk Tryd.prog 35 ⟨.int .u8, 1, 1, some [(.int .u8 0)]⟩ := ⟨⟨_, Tryd.underlying35, rfl⟩, Tryd.sizeOf35, fun w => ⟨_, Tryd.typeInfo35 w, rfl⟩, fun z hz w => by cases hz; exact ⟨_, Tryd.zeroValue35 w, rfl⟩⟩
theorem tok36 : TOk Tryd.prog 36 ⟨.arr 2 35, 2, 2, some [(.int .u8 0), (.int .u8 0)]⟩ := ⟨⟨_, Tryd.underlying36, rfl⟩, Tryd.sizeOf36, fun w => ⟨_, Tryd.typeInfo36 w, rfl⟩, fun z hz w => by cases hz; exact ⟨_, Tryd.zeroValue36 w, rfl⟩⟩
theorem tok37 : TOk Tryd.prog 37 ⟨.arr 2 35, 2, 2, some [(.int .u8 0), (.int .u8 0)]⟩ := ⟨⟨_, Tryd.underlying37, rfl⟩, Tryd.sizeOf37, fun w => ⟨_, Tryd.typeInfo37 w, rfl⟩, fun z hz w => by cases hz; exact ⟨_, Tryd.zeroValue37 w, rfl⟩⟩
theorem tok38 : TOk Tryd.prog 38 ⟨.slice 37, 1, 24, some [(.slice none 0 0)]⟩ := ⟨⟨_, Tryd.underlying38, rfl⟩, Tryd.sizeOf38, fun w => ⟨_, Tryd.typeInfo38 w, rfl⟩, fun z hz w => by cases hz; exact ⟨_, Tryd.zeroValue38 w, rfl⟩⟩
theorem tok42 : TOk Tryd.prog 42 ⟨.struct [(9, 0), (9, 1), (27, 2)], 3, 40, some [(.string ByteArray.empty), (.string ByteArray.empty), (.int .u16 0)]⟩ := ⟨⟨_, Tryd.underlying42, ⟨_, rfl, rfl⟩⟩, Tryd.sizeOf42, fun w => ⟨_, Tryd.typeInfo42 w, rfl⟩, fun z hz w => by cases hz; exact ⟨_, Tryd.zeroValue42 w, rfl⟩⟩
theorem tok43 : TOk Tryd.prog 43 ⟨.struct [(9, 0), (9, 1), (27, 2)], 3, 40, some [(.string ByteArray.empty), (.string ByteArray.empty), (.int .u16 0)]⟩ := ⟨⟨_, Tryd.underlying43, ⟨_, rfl, rfl⟩⟩, Tryd.sizeOf43, fun w => ⟨_, Tryd.typeInfo43 w, rfl⟩, fun z hz w => by cases hz; exact ⟨_, Tryd.zeroValue43 w, rfl⟩⟩
theorem tok45 : TOk Tryd.prog 45 ⟨.struct [(9, 0), (38, 1), (27, 2), (5, 3), (37, 4)], 6, 48, some [(.string ByteArray.empty), (.slice none 0 0), (.int .u16 0), (.int .u8 0), (.int .u8 0), (.int .u8 0)]⟩ := ⟨⟨_, Tryd.underlying45, ⟨_, rfl, rfl⟩⟩, Tryd.sizeOf45, fun w => ⟨_, Tryd.typeInfo45 w, rfl⟩, fun z hz w => by cases hz; exact ⟨_, Tryd.zeroValue45 w, rfl⟩⟩
theorem tok46 : TOk Tryd.prog 46 ⟨.struct [(9, 0), (38, 1), (27, 2), (5, 3), (37, 4)], 6, 48, some [(.string ByteArray.empty), (.slice none 0 0), (.int .u16 0), (.int .u8 0), (.int .u8 0), (.int .u8 0)]⟩ := ⟨⟨_, Tryd.underlying46, ⟨_, rfl, rfl⟩⟩, Tryd.sizeOf46, fun w => ⟨_, Tryd.typeInfo46 w, rfl⟩, fun z hz w => by cases hz; exact ⟨_, Tryd.zeroValue46 w, rfl⟩⟩
theorem tok47 : TOk Tryd.prog 47 ⟨.slice 5, 1, 24, some [(.slice none 0 0)]⟩ := ⟨⟨_, Tryd.underlying47, rfl⟩, Tryd.sizeOf47, fun w => ⟨_, Tryd.typeInfo47 w, rfl⟩, fun z hz w => by cases hz; exact ⟨_, Tryd.zeroValue47 w, rfl⟩⟩
theorem tok54 : TOk Tryd.prog 54 ⟨.int .i64, 1, 8, some [(.int .i64 0)]⟩ := ⟨⟨_, Tryd.underlying54, rfl⟩, Tryd.sizeOf54, fun w => ⟨_, Tryd.typeInfo54 w, rfl⟩, fun z hz w => by cases hz; exact ⟨_, Tryd.zeroValue54 w, rfl⟩⟩
theorem tok56 : TOk Tryd.prog 56 ⟨.struct [(47, 0)], 1, 24, some [(.slice none 0 0)]⟩ := ⟨⟨_, Tryd.underlying56, ⟨_, rfl, rfl⟩⟩, Tryd.sizeOf56, fun w => ⟨_, Tryd.typeInfo56 w, rfl⟩, fun z hz w => by cases hz; exact ⟨_, Tryd.zeroValue56 w, rfl⟩⟩
theorem tok57 : TOk Tryd.prog 57 ⟨.struct [(47, 0)], 1, 24, some [(.slice none 0 0)]⟩ := ⟨⟨_, Tryd.underlying57, ⟨_, rfl, rfl⟩⟩, Tryd.sizeOf57, fun w => ⟨_, Tryd.typeInfo57 w, rfl⟩, fun z hz w => by cases hz; exact ⟨_, Tryd.zeroValue57 w, rfl⟩⟩
theorem tok60 : TOk Tryd.prog 60 ⟨.ptr 57, 1, 8, some [(.pointer none)]⟩ := ⟨⟨_, Tryd.underlying60, rfl⟩, Tryd.sizeOf60, fun w => ⟨_, Tryd.typeInfo60 w, rfl⟩, fun z hz w => by cases hz; exact ⟨_, Tryd.zeroValue60 w, rfl⟩⟩
theorem tok61 : TOk Tryd.prog 61 ⟨.slice 21, 1, 24, some [(.slice none 0 0)]⟩ := ⟨⟨_, Tryd.underlying61, rfl⟩, Tryd.sizeOf61, fun w => ⟨_, Tryd.typeInfo61 w, rfl⟩, fun z hz w => by cases hz; exact ⟨_, Tryd.zeroValue61 w, rfl⟩⟩
theorem tok63 : TOk Tryd.prog 63 ⟨.struct [(21, 0), (21, 1), (21, 2), (21, 3), (5, 4), (5, 5)], 6, 20, some [(.int .i32 0), (.int .i32 0), (.int .i32 0), (.int .i32 0), (.int .u8 0), (.int .u8 0)]⟩ := ⟨⟨_, Tryd.underlying63, ⟨_, rfl, rfl⟩⟩, Tryd.sizeOf63, fun w => ⟨_, Tryd.typeInfo63 w, rfl⟩, fun z hz w => by cases hz; exact ⟨_, Tryd.zeroValue63 w, rfl⟩⟩
theorem tok64 : TOk Tryd.prog 64 ⟨.struct [(21, 0), (21, 1), (21, 2), (21, 3), (5, 4), (5, 5)], 6, 20, some [(.int .i32 0), (.int .i32 0), (.int .i32 0), (.int .i32 0), (.int .u8 0), (.int .u8 0)]⟩ := ⟨⟨_, Tryd.underlying64, ⟨_, rfl, rfl⟩⟩, Tryd.sizeOf64, fun w => ⟨_, Tryd.typeInfo64 w, rfl⟩, fun z hz w => by cases hz; exact ⟨_, Tryd.zeroValue64 w, rfl⟩⟩
theorem tok72 : TOk Tryd.prog 72 ⟨.arr 2 21, 2, 8, some [(.int .i32 0), (.int .i32 0)]⟩ := ⟨⟨_, Tryd.underlying72, rfl⟩, Tryd.sizeOf72, fun w => ⟨_, Tryd.typeInfo72 w, rfl⟩, fun z hz w => by cases hz; exact ⟨_, Tryd.zeroValue72 w, rfl⟩⟩
theorem tok73 : TOk Tryd.prog 73 ⟨.arr 7 72, 14, 56, some [(.int .i32 0), (.int .i32 0), (.int .i32 0), (.int .i32 0), (.int .i32 0), (.int .i32 0), (.int .i32 0), (.int .i32 0), (.int .i32 0), (.int .i32 0), (.int .i32 0), (.int .i32 0), (.int .i32 0), (.int .i32 0)]⟩ := ⟨⟨_, Tryd.underlying73, rfl⟩, Tryd.sizeOf73, fun w => ⟨_, Tryd.typeInfo73 w, rfl⟩, fun z hz w => by cases hz; exact ⟨_, Tryd.zeroValue73 w, rfl⟩⟩
theorem tok74 : TOk Tryd.prog 74 ⟨.arr 6 72, 12, 48, some [(.int .i32 0), (.int .i32 0), (.int .i32 0), (.int .i32 0), (.int .i32 0), (.int .i32 0), (.int .i32 0), (.int .i32 0), (.int .i32 0), (.int .i32 0), (.int .i32 0), (.int .i32 0)]⟩ := ⟨⟨_, Tryd.underlying74, rfl⟩, Tryd.sizeOf74, fun w => ⟨_, Tryd.typeInfo74 w, rfl⟩, fun z hz w => by cases hz; exact ⟨_, Tryd.zeroValue74 w, rfl⟩⟩
theorem tok76 : TOk Tryd.prog 76 ⟨.slice 72, 1, 24, some [(.slice none 0 0)]⟩ := ⟨⟨_, Tryd.underlying76, rfl⟩, Tryd.sizeOf76, fun w => ⟨_, Tryd.typeInfo76 w, rfl⟩, fun z hz w => by cases hz; exact ⟨_, Tryd.zeroValue76 w, rfl⟩⟩
theorem tok82 : TOk Tryd.prog 82 ⟨.int .u64, 1, 8, some [(.int .u64 0)]⟩ := ⟨⟨_, Tryd.underlying82, rfl⟩, Tryd.sizeOf82, fun w => ⟨_, Tryd.typeInfo82 w, rfl⟩, fun z hz w => by cases hz; exact ⟨_, Tryd.zeroValue82 w, rfl⟩⟩
theorem tok85 : TOk Tryd.prog 85 ⟨.int .u32, 1, 4, some [(.int .u32 0)]⟩ := ⟨⟨_, Tryd.underlying85, rfl⟩, Tryd.sizeOf85, fun w => ⟨_, Tryd.typeInfo85 w, rfl⟩, fun z hz w => by cases hz; exact ⟨_, Tryd.zeroValue85 w, rfl⟩⟩
theorem tok99 : TOk Tryd.prog 99 ⟨.ptr 5, 1, 8, some [(.pointer none)]⟩ := ⟨⟨_, Tryd.underlying99, rfl⟩, Tryd.sizeOf99, fun w => ⟨_, Tryd.typeInfo99 w, rfl⟩, fun z hz w => by cases hz; exact ⟨_, Tryd.zeroValue99 w, rfl⟩⟩
theorem ctt_ok : CTabOk Tryd.prog TT := by
  intro x hx
  simp only [TT, List.mem_cons, List.not_mem_nil, or_false] at hx
  rcases hx with rfl | rfl | rfl | rfl | rfl | rfl | rfl | rfl | rfl | rfl | rfl | rfl | rfl | rfl | rfl | rfl | rfl | rfl | rfl | rfl | rfl | rfl | rfl | rfl | rfl | rfl | rfl | rfl | rfl | rfl | rfl | rfl | rfl | rfl | rfl | rfl | rfl | rfl | rfl
  · exact ⟨by kernel_rfl, by kernel_rfl⟩
  · exact ⟨by kernel_rfl, by kernel_rfl⟩
  · exact ⟨by kernel_rfl, by kernel_rfl⟩
  · exact ⟨by kernel_rfl, by kernel_rfl⟩
  · exact ⟨by kernel_rfl, by kernel_rfl⟩
  · exact ⟨by kernel_rfl, by kernel_rfl⟩
  · exact ⟨by kernel_rfl, by kernel_rfl⟩
  · exact ⟨by kernel_rfl, by kernel_rfl⟩
  · exact ⟨by kernel_rfl, by kernel_rfl⟩
  · exact ⟨by kernel_rfl, by kernel_rfl⟩
  · exact ⟨by kernel_rfl, by kernel_rfl⟩
  · exact ⟨by kernel_rfl, by kernel_rfl⟩
  · exact ⟨by kernel_rfl, by kernel_rfl⟩
  · exact ⟨by kernel_rfl, by kernel_rfl⟩
  · exact ⟨by kernel_rfl, by kernel_rfl⟩
  · exact ⟨by kernel_rfl, by kernel_rfl⟩
  · exact ⟨by kernel_rfl, by kernel_rfl⟩
  · exact ⟨by kernel_rfl, by kernel_rfl⟩
  · exact ⟨by kernel_rfl, by kernel_rfl⟩
  · exact ⟨by kernel_rfl, by kernel_rfl⟩
  · exact ⟨by kernel_rfl, by kernel_rfl⟩
  · exact ⟨by kernel_rfl, by kernel_rfl⟩
  · exact ⟨by kernel_rfl, by kernel_rfl⟩
  · exact ⟨by kernel_rfl, by kernel_rfl⟩
  · exact ⟨by kernel_rfl, by kernel_rfl⟩
  · exact ⟨by kernel_rfl, by kernel_rfl⟩
  · exact ⟨by kernel_rfl, by kernel_rfl⟩
  · exact ⟨by kernel_rfl, by kernel_rfl⟩
  · exact ⟨by kernel_rfl, by kernel_rfl⟩
  · exact ⟨by kernel_rfl, by kernel_rfl⟩
  · exact ⟨by kernel_rfl, by kernel_rfl⟩
  · exact ⟨by kernel_rfl, by kernel_rfl⟩
  · exact ⟨by kernel_rfl, by kernel_rfl⟩
  · exact ⟨by kernel_rfl, by kernel_rfl⟩
  · exact ⟨by kernel_rfl, by kernel_rfl⟩
  · exact ⟨by kernel_rfl, by kernel_rfl⟩
  · exact ⟨by kernel_rfl, by kernel_rfl⟩
  · exact ⟨by kernel_rfl, by kernel_rfl⟩
  · exact ⟨by kernel_rfl, by kernel_rfl⟩
theorem tt_closed : structsIn TT TT = true := by kernel_rfl
theorem tt_ok : TabOk Tryd.prog TT := by
  intro x hx
  simp only [TT, List.mem_cons, List.not_mem_nil, or_false] at hx
  rcases hx with rfl | rfl | rfl | rfl | rfl | rfl | rfl | rfl | rfl | rfl | rfl | rfl | rfl | rfl | rfl | rfl | rfl | rfl | rfl | rfl | rfl | rfl | rfl | rfl | rfl | rfl | rfl | rfl | rfl | rfl | rfl | rfl | rfl | rfl | rfl | rfl | rfl | rfl | rfl
  · exact tok2
  · exact tok3
  · exact tok4
  · exact tok5
  · exact tok9
  · exact tok12
  · exact tok21
  · exact tok22
  · exact tok23
  · exact tok24
  · exact tok25
  · exact tok26
  · exact tok27
  · exact tok28
  · exact tok29
  · exact tok30
  · exact tok35
  · exact tok36
  · exact tok37
  · exact tok38
  · exact tok42
  · exact tok43
  · exact tok45
  · exact tok46
  · exact tok47
  · exact tok54
  · exact tok56
  · exact tok57
  · exact tok60
  · exact tok61
  · exact tok63
  · exact tok64
  · exact tok72
  · exact tok73
  · exact tok74
  · exact tok76
  · exact tok82
  · exact tok85
  · exact tok99
theorem tt_eq : eqOkB Tryd.prog TT = true := by kernel_rfl
theorem tt_one : oneB TT = true := by kernel_rfl


end Go.Proofs.YtgnddjlbhfoioaaDoor
