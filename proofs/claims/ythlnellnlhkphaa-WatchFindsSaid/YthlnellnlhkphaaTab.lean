/- The program's types in a table of the engine's kind, each row proved against the program. -/
import Derived.Test.YthlnellnlhkphaaProg
import Derived.Test.YthlnellnlhkphaaEng2
import Derived.KernelRfl
namespace Go.Proofs.Ythlnellnlhkphaa
open Go.Proofs.Ythlnellnlhkphaa.Eng Go.RowKit

def TT : List (Nat × TI) :=
  [(2, ⟨.int .i64, 1, 8, some [(.int .i64 0)]⟩),
   (3, ⟨.int .i64, 1, 8, some [(.int .i64 0)]⟩),
   (4, ⟨.bool, 1, 1, some [(.bool false)]⟩),
   (5, ⟨.int .u8, 1, 1, some [(.int .u8 0)]⟩),
   (9, ⟨.str, 1, 16, some [(.string ByteArray.empty)]⟩),
   (12, ⟨.int .u64, 1, 8, some [(.int .u64 0)]⟩),
   (21, ⟨.int .i32, 1, 4, some [(.int .i32 0)]⟩),
   (22, ⟨.int .u64, 1, 8, some [(.int .u64 0)]⟩),
   (23, ⟨.arr 2 22, 2, 16, some [(.int .u64 0), (.int .u64 0)]⟩),
   (24, ⟨.slice 22, 1, 24, some [(.slice none 0 0)]⟩),
   (25, ⟨.ptr 33, 1, 8, some [(.pointer none)]⟩),
   (28, ⟨.int .i64, 1, 8, some [(.int .i64 0)]⟩),
   (31, ⟨.slice 41, 1, 24, some [(.slice none 0 0)]⟩),
   (32, ⟨.struct [(22, 0), (31, 1), (4, 2)], 3, 40, some [(.int .u64 0), (.slice none 0 0), (.bool false)]⟩),
   (33, ⟨.struct [(22, 0), (31, 1), (4, 2)], 3, 40, some [(.int .u64 0), (.slice none 0 0), (.bool false)]⟩),
   (38, ⟨.struct [(22, 0), (4, 1)], 2, 16, some [(.int .u64 0), (.bool false)]⟩),
   (39, ⟨.struct [(22, 0), (4, 1)], 2, 16, some [(.int .u64 0), (.bool false)]⟩),
   (40, ⟨.struct [(22, 0), (39, 1), (39, 3)], 5, 40, some [(.int .u64 0), (.int .u64 0), (.bool false), (.int .u64 0), (.bool false)]⟩),
   (41, ⟨.struct [(22, 0), (39, 1), (39, 3)], 5, 40, some [(.int .u64 0), (.int .u64 0), (.bool false), (.int .u64 0), (.bool false)]⟩),
   (42, ⟨.ptr 41, 1, 8, some [(.pointer none)]⟩),
   (44, ⟨.ptr 39, 1, 8, some [(.pointer none)]⟩),
   (51, ⟨.int .u64, 1, 8, some [(.int .u64 0)]⟩),
   (63, ⟨.int .u32, 1, 4, some [(.int .u32 0)]⟩),
   (67, ⟨.ptr 5, 1, 8, some [(.pointer none)]⟩)]

theorem tok2 : TOk Try.prog 2 ⟨.int .i64, 1, 8, some [(.int .i64 0)]⟩ := ⟨⟨_, Try.underlying2, rfl⟩, Try.sizeOf2, fun w => ⟨_, Try.typeInfo2 w, rfl⟩, fun z hz w => by cases hz; exact ⟨_, Try.zeroValue2 w, rfl⟩⟩
theorem tok3 : TOk Try.prog 3 ⟨.int .i64, 1, 8, some [(.int .i64 0)]⟩ := ⟨⟨_, Try.underlying3, rfl⟩, Try.sizeOf3, fun w => ⟨_, Try.typeInfo3 w, rfl⟩, fun z hz w => by cases hz; exact ⟨_, Try.zeroValue3 w, rfl⟩⟩
theorem tok4 : TOk Try.prog 4 ⟨.bool, 1, 1, some [(.bool false)]⟩ := ⟨⟨_, Try.underlying4, rfl⟩, Try.sizeOf4, fun w => ⟨_, Try.typeInfo4 w, rfl⟩, fun z hz w => by cases hz; exact ⟨_, Try.zeroValue4 w, rfl⟩⟩
theorem tok5 : TOk Try.prog 5 ⟨.int .u8, 1, 1, some [(.int .u8 0)]⟩ := ⟨⟨_, Try.underlying5, rfl⟩, Try.sizeOf5, fun w => ⟨_, Try.typeInfo5 w, rfl⟩, fun z hz w => by cases hz; exact ⟨_, Try.zeroValue5 w, rfl⟩⟩
theorem tok9 : TOk Try.prog 9 ⟨.str, 1, 16, some [(.string ByteArray.empty)]⟩ := ⟨⟨_, Try.underlying9, rfl⟩, Try.sizeOf9, fun w => ⟨_, Try.typeInfo9 w, rfl⟩, fun z hz w => by cases hz; exact ⟨_, Try.zeroValue9 w, rfl⟩⟩
theorem tok12 : TOk Try.prog 12 ⟨.int .u64, 1, 8, some [(.int .u64 0)]⟩ := ⟨⟨_, Try.underlying12, rfl⟩, Try.sizeOf12, fun w => ⟨_, Try.typeInfo12 w, rfl⟩, fun z hz w => by cases hz; exact ⟨_, Try.zeroValue12 w, rfl⟩⟩
theorem tok21 : TOk Try.prog 21 ⟨.int .i32, 1, 4, some [(.int .i32 0)]⟩ := ⟨⟨_, Try.underlying21, rfl⟩, Try.sizeOf21, fun w => ⟨_, Try.typeInfo21 w, rfl⟩, fun z hz w => by cases hz; exact ⟨_, Try.zeroValue21 w, rfl⟩⟩
theorem tok22 : TOk Try.prog 22 ⟨.int .u64, 1, 8, some [(.int .u64 0)]⟩ := ⟨⟨_, Try.underlying22, rfl⟩, Try.sizeOf22, fun w => ⟨_, Try.typeInfo22 w, rfl⟩, fun z hz w => by cases hz; exact ⟨_, Try.zeroValue22 w, rfl⟩⟩
theorem tok23 : TOk Try.prog 23 ⟨.arr 2 22, 2, 16, some [(.int .u64 0), (.int .u64 0)]⟩ := ⟨⟨_, Try.underlying23, rfl⟩, Try.sizeOf23, fun w => ⟨_, Try.typeInfo23 w, rfl⟩, fun z hz w => by cases hz; exact ⟨_, Try.zeroValue23 w, rfl⟩⟩
theorem tok24 : TOk Try.prog 24 ⟨.slice 22, 1, 24, some [(.slice none 0 0)]⟩ := ⟨⟨_, Try.underlying24, rfl⟩, Try.sizeOf24, fun w => ⟨_, Try.typeInfo24 w, rfl⟩, fun z hz w => by cases hz; exact ⟨_, Try.zeroValue24 w, rfl⟩⟩
theorem tok25 : TOk Try.prog 25 ⟨.ptr 33, 1, 8, some [(.pointer none)]⟩ := ⟨⟨_, Try.underlying25, rfl⟩, Try.sizeOf25, fun w => ⟨_, Try.typeInfo25 w, rfl⟩, fun z hz w => by cases hz; exact ⟨_, Try.zeroValue25 w, rfl⟩⟩
theorem tok28 : TOk Try.prog 28 ⟨.int .i64, 1, 8, some [(.int .i64 0)]⟩ := ⟨⟨_, Try.underlying28, rfl⟩, Try.sizeOf28, fun w => ⟨_, Try.typeInfo28 w, rfl⟩, fun z hz w => by cases hz; exact ⟨_, Try.zeroValue28 w, rfl⟩⟩
theorem tok31 : TOk Try.prog 31 ⟨.slice 41, 1, 24, some [(.slice none 0 0)]⟩ := ⟨⟨_, Try.underlying31, rfl⟩, Try.sizeOf31, fun w => ⟨_, Try.typeInfo31 w, rfl⟩, fun z hz w => by cases hz; exact ⟨_, Try.zeroValue31 w, rfl⟩⟩
theorem tok32 : TOk Try.prog 32 ⟨.struct [(22, 0), (31, 1), (4, 2)], 3, 40, some [(.int .u64 0), (.slice none 0 0), (.bool false)]⟩ := ⟨⟨_, Try.underlying32, ⟨_, rfl, rfl⟩⟩, Try.sizeOf32, fun w => ⟨_, Try.typeInfo32 w, rfl⟩, fun z hz w => by cases hz; exact ⟨_, Try.zeroValue32 w, rfl⟩⟩
theorem tok33 : TOk Try.prog 33 ⟨.struct [(22, 0), (31, 1), (4, 2)], 3, 40, some [(.int .u64 0), (.slice none 0 0), (.bool false)]⟩ := ⟨⟨_, Try.underlying33, ⟨_, rfl, rfl⟩⟩, Try.sizeOf33, fun w => ⟨_, Try.typeInfo33 w, rfl⟩, fun z hz w => by cases hz; exact ⟨_, Try.zeroValue33 w, rfl⟩⟩
theorem tok38 : TOk Try.prog 38 ⟨.struct [(22, 0), (4, 1)], 2, 16, some [(.int .u64 0), (.bool false)]⟩ := ⟨⟨_, Try.underlying38, ⟨_, rfl, rfl⟩⟩, Try.sizeOf38, fun w => ⟨_, Try.typeInfo38 w, rfl⟩, fun z hz w => by cases hz; exact ⟨_, Try.zeroValue38 w, rfl⟩⟩
theorem tok39 : TOk Try.prog 39 ⟨.struct [(22, 0), (4, 1)], 2, 16, some [(.int .u64 0), (.bool false)]⟩ := ⟨⟨_, Try.underlying39, ⟨_, rfl, rfl⟩⟩, Try.sizeOf39, fun w => ⟨_, Try.typeInfo39 w, rfl⟩, fun z hz w => by cases hz; exact ⟨_, Try.zeroValue39 w, rfl⟩⟩
theorem tok40 : TOk Try.prog 40 ⟨.struct [(22, 0), (39, 1), (39, 3)], 5, 40, some [(.int .u64 0), (.int .u64 0), (.bool false), (.int .u64 0), (.bool false)]⟩ := ⟨⟨_, Try.underlying40, ⟨_, rfl, rfl⟩⟩, Try.sizeOf40, fun w => ⟨_, Try.typeInfo40 w, rfl⟩, fun z hz w => by cases hz; exact ⟨_, Try.zeroValue40 w, rfl⟩⟩
theorem tok41 : TOk Try.prog 41 ⟨.struct [(22, 0), (39, 1), (39, 3)], 5, 40, some [(.int .u64 0), (.int .u64 0), (.bool false), (.int .u64 0), (.bool false)]⟩ := ⟨⟨_, Try.underlying41, ⟨_, rfl, rfl⟩⟩, Try.sizeOf41, fun w => ⟨_, Try.typeInfo41 w, rfl⟩, fun z hz w => by cases hz; exact ⟨_, Try.zeroValue41 w, rfl⟩⟩
theorem tok42 : TOk Try.prog 42 ⟨.ptr 41, 1, 8, some [(.pointer none)]⟩ := ⟨⟨_, Try.underlying42, rfl⟩, Try.sizeOf42, fun w => ⟨_, Try.typeInfo42 w, rfl⟩, fun z hz w => by cases hz; exact ⟨_, Try.zeroValue42 w, rfl⟩⟩
theorem tok44 : TOk Try.prog 44 ⟨.ptr 39, 1, 8, some [(.pointer none)]⟩ := ⟨⟨_, Try.underlying44, rfl⟩, Try.sizeOf44, fun w => ⟨_, Try.typeInfo44 w, rfl⟩, fun z hz w => by cases hz; exact ⟨_, Try.zeroValue44 w, rfl⟩⟩
theorem tok51 : TOk Try.prog 51 ⟨.int .u64, 1, 8, some [(.int .u64 0)]⟩ := ⟨⟨_, Try.underlying51, rfl⟩, Try.sizeOf51, fun w => ⟨_, Try.typeInfo51 w, rfl⟩, fun z hz w => by cases hz; exact ⟨_, Try.zeroValue51 w, rfl⟩⟩
theorem tok63 : TOk Try.prog 63 ⟨.int .u32, 1, 4, some [(.int .u32 0)]⟩ := ⟨⟨_, Try.underlying63, rfl⟩, Try.sizeOf63, fun w => ⟨_, Try.typeInfo63 w, rfl⟩, fun z hz w => by cases hz; exact ⟨_, Try.zeroValue63 w, rfl⟩⟩
theorem tok67 : TOk Try.prog 67 ⟨.ptr 5, 1, 8, some [(.pointer none)]⟩ := ⟨⟨_, Try.underlying67, rfl⟩, Try.sizeOf67, fun w => ⟨_, Try.typeInfo67 w, rfl⟩, fun z hz w => by cases hz; exact ⟨_, Try.zeroValue67 w, rfl⟩⟩
theorem ctt_ok : CTabOk Try.prog TT := by
  intro x hx
  simp only [TT, List.mem_cons, List.not_mem_nil, or_false] at hx
  rcases hx with rfl | rfl | rfl | rfl | rfl | rfl | rfl | rfl | rfl | rfl | rfl | rfl | rfl | rfl | rfl | rfl | rfl | rfl | rfl | rfl | rfl | rfl | rfl | rfl
  · exact ⟨by kernel_rfl, by kernel_rfl⟩
  · exact ⟨by kernel_rfl, by kernel_rfl⟩
  · exact ⟨by kernel_rfl, by kernel_rfl⟩
  · exact ⟨by kernel_rfl, by kernel_rfl⟩
  · exact ⟨by kernel_rfl, by kernel_rfl⟩
  · exact ⟨by kernel_rfl, by kernel_rfl⟩
  · exact ⟨by kernel_rfl, by kernel_rfl⟩
  · exact ⟨by kernel_rfl, by kernel_rfl⟩
  · exact ⟨by kernel_rfl, by kernel_rfl⟩
  · exact ⟨by kernel_rfl, by kernel_rfl⟩
  · exact ⟨by kernel_rfl, by kernel_rfl⟩
  · exact ⟨by kernel_rfl, by kernel_rfl⟩
  · exact ⟨by kernel_rfl, by kernel_rfl⟩
  · exact ⟨by kernel_rfl, by kernel_rfl⟩
  · exact ⟨by kernel_rfl, by kernel_rfl⟩
  · exact ⟨by kernel_rfl, by kernel_rfl⟩
  · exact ⟨by kernel_rfl, by kernel_rfl⟩
  · exact ⟨by kernel_rfl, by kernel_rfl⟩
  · exact ⟨by kernel_rfl, by kernel_rfl⟩
  · exact ⟨by kernel_rfl, by kernel_rfl⟩
  · exact ⟨by kernel_rfl, by kernel_rfl⟩
  · exact ⟨by kernel_rfl, by kernel_rfl⟩
  · exact ⟨by kernel_rfl, by kernel_rfl⟩
  · exact ⟨by kernel_rfl, by kernel_rfl⟩
theorem tt_closed : structsIn TT TT = true := by kernel_rfl
theorem tt_ok : TabOk Try.prog TT := by
  intro x hx
  simp only [TT, List.mem_cons, List.not_mem_nil, or_false] at hx
  rcases hx with rfl | rfl | rfl | rfl | rfl | rfl | rfl | rfl | rfl | rfl | rfl | rfl | rfl | rfl | rfl | rfl | rfl | rfl | rfl | rfl | rfl | rfl | rfl | rfl
  · exact tok2
  · exact tok3
  · exact tok4
  · exact tok5
  · exact tok9
  · exact tok12
  · exact tok21
  · exact tok22
  · exact tok23
  · exact tok24
  · exact tok25
  · exact tok28
  · exact tok31
  · exact tok32
  · exact tok33
  · exact tok38
  · exact tok39
  · exact tok40
  · exact tok41
  · exact tok42
  · exact tok44
  · exact tok51
  · exact tok63
  · exact tok67
theorem tt_eq : eqOkB Try.prog TT = true := by kernel_rfl
theorem tt_one : oneB TT = true := by kernel_rfl


end Go.Proofs.Ythlnellnlhkphaa
