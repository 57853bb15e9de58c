/- The program's types in a table of the engine's kind, each row proved against the program. -/
import Derived.Test.YtpcaiefefanpoaaProg
import Derived.Test.YtpcaiefefanpoaaEng2
import Derived.KernelRfl
namespace Go.Proofs.Ytpcaiefefanpoaa
open Go.Proofs.Ytpcaiefefanpoaa.Eng Go.RowKit

def TT : List (Nat × TI) :=
  [(2, ⟨.int .i64, 1, 8, some [(.int .i64 0)]⟩),
   (3, ⟨.int .i64, 1, 8, some [(.int .i64 0)]⟩),
   (4, ⟨.bool, 1, 1, some [(.bool false)]⟩),
   (5, ⟨.int .u8, 1, 1, some [(.int .u8 0)]⟩),
   (9, ⟨.str, 1, 16, some [(.string ByteArray.empty)]⟩),
   (12, ⟨.int .u64, 1, 8, some [(.int .u64 0)]⟩),
   (21, ⟨.int .i32, 1, 4, some [(.int .i32 0)]⟩),
   (22, ⟨.slice 32, 1, 24, some [(.slice none 0 0)]⟩),
   (25, ⟨.ptr 28, 1, 8, some [(.pointer none)]⟩),
   (26, ⟨.slice 5, 1, 24, some [(.slice none 0 0)]⟩),
   (27, ⟨.struct [(26, 0)], 1, 24, some [(.slice none 0 0)]⟩),
   (28, ⟨.struct [(26, 0)], 1, 24, some [(.slice none 0 0)]⟩),
   (30, ⟨.int .u64, 1, 8, some [(.int .u64 0)]⟩),
   (31, ⟨.struct [(5, 0), (30, 1), (9, 2)], 3, 32, some [(.int .u8 0), (.int .u64 0), (.string ByteArray.empty)]⟩),
   (32, ⟨.struct [(5, 0), (30, 1), (9, 2)], 3, 32, some [(.int .u8 0), (.int .u64 0), (.string ByteArray.empty)]⟩),
   (35, ⟨.ptr 67, 1, 8, some [(.pointer none)]⟩),
   (37, ⟨.ptr 39, 1, 8, some [(.pointer none)]⟩),
   (38, ⟨.struct [(9, 0), (3, 1), (3, 2)], 3, 32, some [(.string ByteArray.empty), (.int .i64 0), (.int .i64 0)]⟩),
   (39, ⟨.struct [(9, 0), (3, 1), (3, 2)], 3, 32, some [(.string ByteArray.empty), (.int .i64 0), (.int .i64 0)]⟩),
   (42, ⟨.int .u16, 1, 2, some [(.int .u16 0)]⟩),
   (44, ⟨.int .u32, 1, 4, some [(.int .u32 0)]⟩),
   (48, ⟨.int .i64, 1, 8, some [(.int .i64 0)]⟩),
   (64, ⟨.struct [(9, 0), (48, 1)], 2, 24, some [(.string ByteArray.empty), (.int .i64 0)]⟩),
   (65, ⟨.struct [(9, 0), (48, 1)], 2, 24, some [(.string ByteArray.empty), (.int .i64 0)]⟩),
   (66, ⟨.struct [(65, 0)], 2, 24, some [(.string ByteArray.empty), (.int .i64 0)]⟩),
   (67, ⟨.struct [(65, 0)], 2, 24, some [(.string ByteArray.empty), (.int .i64 0)]⟩),
   (80, ⟨.int .u64, 1, 8, some [(.int .u64 0)]⟩),
   (81, ⟨.ptr 65, 1, 8, some [(.pointer none)]⟩),
   (91, ⟨.ptr 5, 1, 8, some [(.pointer none)]⟩)]

theorem tok2 : TOk Try.prog 2 ⟨.int .i64, 1, 8, some [(.int .i64 0)]⟩ := ⟨⟨_, Try.underlying2, rfl⟩, Try.sizeOf2, fun w => ⟨_, Try.typeInfo2 w, rfl⟩, fun z hz w => by cases hz; exact ⟨_, Try.zeroValue2 w, rfl⟩⟩
theorem tok3 : TOk Try.prog 3 ⟨.int .i64, 1, 8, some [(.int .i64 0)]⟩ := ⟨⟨_, Try.underlying3, rfl⟩, Try.sizeOf3, fun w => ⟨_, Try.typeInfo3 w, rfl⟩, fun z hz w => by cases hz; exact ⟨_, Try.zeroValue3 w, rfl⟩⟩
theorem tok4 : TOk Try.prog 4 ⟨.bool, 1, 1, some [(.bool false)]⟩ := ⟨⟨_, Try.underlying4, rfl⟩, Try.sizeOf4, fun w => ⟨_, Try.typeInfo4 w, rfl⟩, fun z hz w => by cases hz; exact ⟨_, Try.zeroValue4 w, rfl⟩⟩
theorem tok5 : TOk Try.prog 5 ⟨.int .u8, 1, 1, some [(.int .u8 0)]⟩ := ⟨⟨_, Try.underlying5, rfl⟩, Try.sizeOf5, fun w => ⟨_, Try.typeInfo5 w, rfl⟩, fun z hz w => by cases hz; exact ⟨_, Try.zeroValue5 w, rfl⟩⟩
theorem tok9 : TOk Try.prog 9 ⟨.str, 1, 16, some [(.string ByteArray.empty)]⟩ := ⟨⟨_, Try.underlying9, rfl⟩, Try.sizeOf9, fun w => ⟨_, Try.typeInfo9 w, rfl⟩, fun z hz w => by cases hz; exact ⟨_, Try.zeroValue9 w, rfl⟩⟩
theorem tok12 : TOk Try.prog 12 ⟨.int .u64, 1, 8, some [(.int .u64 0)]⟩ := ⟨⟨_, Try.underlying12, rfl⟩, Try.sizeOf12, fun w => ⟨_, Try.typeInfo12 w, rfl⟩, fun z hz w => by cases hz; exact ⟨_, Try.zeroValue12 w, rfl⟩⟩
theorem tok21 : TOk Try.prog 21 ⟨.int .i32, 1, 4, some [(.int .i32 0)]⟩ := ⟨⟨_, Try.underlying21, rfl⟩, Try.sizeOf21, fun w => ⟨_, Try.typeInfo21 w, rfl⟩, fun z hz w => by cases hz; exact ⟨_, Try.zeroValue21 w, rfl⟩⟩
theorem tok22 : TOk Try.prog 22 ⟨.slice 32, 1, 24, some [(.slice none 0 0)]⟩ := ⟨⟨_, Try.underlying22, rfl⟩, Try.sizeOf22, fun w => ⟨_, Try.typeInfo22 w, rfl⟩, fun z hz w => by cases hz; exact ⟨_, Try.zeroValue22 w, rfl⟩⟩
theorem tok25 : TOk Try.prog 25 ⟨.ptr 28, 1, 8, some [(.pointer none)]⟩ := ⟨⟨_, Try.underlying25, rfl⟩, Try.sizeOf25, fun w => ⟨_, Try.typeInfo25 w, rfl⟩, fun z hz w => by cases hz; exact ⟨_, Try.zeroValue25 w, rfl⟩⟩
theorem tok26 : TOk Try.prog 26 ⟨.slice 5, 1, 24, some [(.slice none 0 0)]⟩ := ⟨⟨_, Try.underlying26, rfl⟩, Try.sizeOf26, fun w => ⟨_, Try.typeInfo26 w, rfl⟩, fun z hz w => by cases hz; exact ⟨_, Try.zeroValue26 w, rfl⟩⟩
theorem tok27 : TOk Try.prog 27 ⟨.struct [(26, 0)], 1, 24, some [(.slice none 0 0)]⟩ := ⟨⟨_, Try.underlying27, ⟨_, rfl, rfl⟩⟩, Try.sizeOf27, fun w => ⟨_, Try.typeInfo27 w, rfl⟩, fun z hz w => by cases hz; exact ⟨_, Try.zeroValue27 w, rfl⟩⟩
theorem tok28 : TOk Try.prog 28 ⟨.struct [(26, 0)], 1, 24, some [(.slice none 0 0)]⟩ := ⟨⟨_, Try.underlying28, ⟨_, rfl, rfl⟩⟩, Try.sizeOf28, fun w => ⟨_, Try.typeInfo28 w, rfl⟩, fun z hz w => by cases hz; exact ⟨_, Try.zeroValue28 w, rfl⟩⟩
theorem tok30 : TOk Try.prog 30 ⟨.int .u64, 1, 8, some [(.int .u64 0)]⟩ := ⟨⟨_, Try.underlying30, rfl⟩, Try.sizeOf30, fun w => ⟨_, Try.typeInfo30 w, rfl⟩, fun z hz w => by cases hz; exact ⟨_, Try.zeroValue30 w, rfl⟩⟩
theorem tok31 : TOk Try.prog 31 ⟨.struct [(5, 0), (30, 1), (9, 2)], 3, 32, some [(.int .u8 0), (.int .u64 0), (.string ByteArray.empty)]⟩ := ⟨⟨_, Try.underlying31, ⟨_, rfl, rfl⟩⟩, Try.sizeOf31, fun w => ⟨_, Try.typeInfo31 w, rfl⟩, fun z hz w => by cases hz; exact ⟨_, Try.zeroValue31 w, rfl⟩⟩
theorem tok32 : TOk Try.prog 32 ⟨.struct [(5, 0), (30, 1), (9, 2)], 3, 32, some [(.int .u8 0), (.int .u64 0), (.string ByteArray.empty)]⟩ := ⟨⟨_, Try.underlying32, ⟨_, rfl, rfl⟩⟩, Try.sizeOf32, fun w => ⟨_, Try.typeInfo32 w, rfl⟩, fun z hz w => by cases hz; exact ⟨_, Try.zeroValue32 w, rfl⟩⟩
theorem tok35 : TOk Try.prog 35 ⟨.ptr 67, 1, 8, some [(.pointer none)]⟩ := ⟨⟨_, Try.underlying35, rfl⟩, Try.sizeOf35, fun w => ⟨_, Try.typeInfo35 w, rfl⟩, fun z hz w => by cases hz; exact ⟨_, Try.zeroValue35 w, rfl⟩⟩
theorem tok37 : TOk Try.prog 37 ⟨.ptr 39, 1, 8, some [(.pointer none)]⟩ := ⟨⟨_, Try.underlying37, rfl⟩, Try.sizeOf37, fun w => ⟨_, Try.typeInfo37 w, rfl⟩, fun z hz w => by cases hz; exact ⟨_, Try.zeroValue37 w, rfl⟩⟩
theorem tok38 : TOk Try.prog 38 ⟨.struct [(9, 0), (3, 1), (3, 2)], 3, 32, some [(.string ByteArray.empty), (.int .i64 0), (.int .i64 0)]⟩ := ⟨⟨_, Try.underlying38, ⟨_, rfl, rfl⟩⟩, Try.sizeOf38, fun w => ⟨_, Try.typeInfo38 w, rfl⟩, fun z hz w => by cases hz; exact ⟨_, Try.zeroValue38 w, rfl⟩⟩
theorem tok39 : TOk Try.prog 39 ⟨.struct [(9, 0), (3, 1), (3, 2)], 3, 32, some [(.string ByteArray.empty), (.int .i64 0), (.int .i64 0)]⟩ := ⟨⟨_, Try.underlying39, ⟨_, rfl, rfl⟩⟩, Try.sizeOf39, fun w => ⟨_, Try.typeInfo39 w, rfl⟩, fun z hz w => by cases hz; exact ⟨_, Try.zeroValue39 w, rfl⟩⟩
theorem tok42 : TOk Try.prog 42 ⟨.int .u16, 1, 2, some [(.int .u16 0)]⟩ := ⟨⟨_, Try.underlying42, rfl⟩, Try.sizeOf42, fun w => ⟨_, Try.typeInfo42 w, rfl⟩, fun z hz w => by cases hz; exact ⟨_, Try.zeroValue42 w, rfl⟩⟩
theorem tok44 : TOk Try.prog 44 ⟨.int .u32, 1, 4, some [(.int .u32 0)]⟩ := ⟨⟨_, Try.underlying44, rfl⟩, Try.sizeOf44, fun w => ⟨_, Try.typeInfo44 w, rfl⟩, fun z hz w => by cases hz; exact ⟨_, Try.zeroValue44 w, rfl⟩⟩
theorem tok48 : TOk Try.prog 48 ⟨.int .i64, 1, 8, some [(.int .i64 0)]⟩ := ⟨⟨_, Try.underlying48, rfl⟩, Try.sizeOf48, fun w => ⟨_, Try.typeInfo48 w, rfl⟩, fun z hz w => by cases hz; exact ⟨_, Try.zeroValue48 w, rfl⟩⟩
theorem tok64 : TOk Try.prog 64 ⟨.struct [(9, 0), (48, 1)], 2, 24, some [(.string ByteArray.empty), (.int .i64 0)]⟩ := ⟨⟨_, Try.underlying64, ⟨_, rfl, rfl⟩⟩, Try.sizeOf64, fun w => ⟨_, Try.typeInfo64 w, rfl⟩, fun z hz w => by cases hz; exact ⟨_, Try.zeroValue64 w, rfl⟩⟩
theorem tok65 : TOk Try.prog 65 ⟨.struct [(9, 0), (48, 1)], 2, 24, some [(.string ByteArray.empty), (.int .i64 0)]⟩ := ⟨⟨_, Try.underlying65, ⟨_, rfl, rfl⟩⟩, Try.sizeOf65, fun w => ⟨_, Try.typeInfo65 w, rfl⟩, fun z hz w => by cases hz; exact ⟨_, Try.zeroValue65 w, rfl⟩⟩
theorem tok66 : TOk Try.prog 66 ⟨.struct [(65, 0)], 2, 24, some [(.string ByteArray.empty), (.int .i64 0)]⟩ := ⟨⟨_, Try.underlying66, ⟨_, rfl, rfl⟩⟩, Try.sizeOf66, fun w => ⟨_, Try.typeInfo66 w, rfl⟩, fun z hz w => by cases hz; exact ⟨_, Try.zeroValue66 w, rfl⟩⟩
theorem tok67 : TOk Try.prog 67 ⟨.struct [(65, 0)], 2, 24, some [(.string ByteArray.empty), (.int .i64 0)]⟩ := ⟨⟨_, Try.underlying67, ⟨_, rfl, rfl⟩⟩, Try.sizeOf67, fun w => ⟨_, Try.typeInfo67 w, rfl⟩, fun z hz w => by cases hz; exact ⟨_, Try.zeroValue67 w, rfl⟩⟩
theorem tok80 : TOk Try.prog 80 ⟨.int .u64, 1, 8, some [(.int .u64 0)]⟩ := ⟨⟨_, Try.underlying80, rfl⟩, Try.sizeOf80, fun w => ⟨_, Try.typeInfo80 w, rfl⟩, fun z hz w => by cases hz; exact ⟨_, Try.zeroValue80 w, rfl⟩⟩
theorem tok81 : TOk Try.prog 81 ⟨.ptr 65, 1, 8, some [(.pointer none)]⟩ := ⟨⟨_, Try.underlying81, rfl⟩, Try.sizeOf81, fun w => ⟨_, Try.typeInfo81 w, rfl⟩, fun z hz w => by cases hz; exact ⟨_, Try.zeroValue81 w, rfl⟩⟩
theorem tok91 : TOk Try.prog 91 ⟨.ptr 5, 1, 8, some [(.pointer none)]⟩ := ⟨⟨_, Try.underlying91, rfl⟩, Try.sizeOf91, fun w => ⟨_, Try.typeInfo91 w, rfl⟩, fun z hz w => by cases hz; exact ⟨_, Try.zeroValue91 w, rfl⟩⟩
theorem ctt_ok : CTabOk Try.prog TT := by
  intro x hx
  simp only [TT, List.mem_cons, List.not_mem_nil, or_false] at hx
  rcases hx with rfl | rfl | rfl | rfl | rfl | rfl | rfl | rfl | rfl | rfl | rfl | rfl | rfl | rfl | rfl | rfl | rfl | rfl | rfl | rfl | rfl | rfl | rfl | rfl | rfl | rfl | rfl | rfl | rfl
  · exact ⟨by kernel_rfl, by kernel_rfl⟩
  · exact ⟨by kernel_rfl, by kernel_rfl⟩
  · exact ⟨by kernel_rfl, by kernel_rfl⟩
  · exact ⟨by kernel_rfl, by kernel_rfl⟩
  · exact ⟨by kernel_rfl, by kernel_rfl⟩
  · exact ⟨by kernel_rfl, by kernel_rfl⟩
  · exact ⟨by kernel_rfl, by kernel_rfl⟩
  · exact ⟨by kernel_rfl, by kernel_rfl⟩
  · exact ⟨by kernel_rfl, by kernel_rfl⟩
  · exact ⟨by kernel_rfl, by kernel_rfl⟩
  · exact ⟨by kernel_rfl, by kernel_rfl⟩
  · exact ⟨by kernel_rfl, by kernel_rfl⟩
  · exact ⟨by kernel_rfl, by kernel_rfl⟩
  · exact ⟨by kernel_rfl, by kernel_rfl⟩
  · exact ⟨by kernel_rfl, by kernel_rfl⟩
  · exact ⟨by kernel_rfl, by kernel_rfl⟩
  · exact ⟨by kernel_rfl, by kernel_rfl⟩
  · exact ⟨by kernel_rfl, by kernel_rfl⟩
  · exact ⟨by kernel_rfl, by kernel_rfl⟩
  · exact ⟨by kernel_rfl, by kernel_rfl⟩
  · exact ⟨by kernel_rfl, by kernel_rfl⟩
  · exact ⟨by kernel_rfl, by kernel_rfl⟩
  · exact ⟨by kernel_rfl, by kernel_rfl⟩
  · exact ⟨by kernel_rfl, by kernel_rfl⟩
  · exact ⟨by kernel_rfl, by kernel_rfl⟩
  · exact ⟨by kernel_rfl, by kernel_rfl⟩
  · exact ⟨by kernel_rfl, by kernel_rfl⟩
  · exact ⟨by kernel_rfl, by kernel_rfl⟩
  · exact ⟨by kernel_rfl, by kernel_rfl⟩
theorem tt_closed : structsIn TT TT = true := by kernel_rfl
theorem tt_ok : TabOk Try.prog TT := by
  intro x hx
  simp only [TT, List.mem_cons, List.not_mem_nil, or_false] at hx
  rcases hx with rfl | rfl | rfl | rfl | rfl | rfl | rfl | rfl | rfl | rfl | rfl | rfl | rfl | rfl | rfl | rfl | rfl | rfl | rfl | rfl | rfl | rfl | rfl | rfl | rfl | rfl | rfl | rfl | rfl
  · exact tok2
  · exact tok3
  · exact tok4
  · exact tok5
  · exact tok9
  · exact tok12
  · exact tok21
  · exact tok22
  · exact tok25
  · exact tok26
  · exact tok27
  · exact tok28
  · exact tok30
  · exact tok31
  · exact tok32
  · exact tok35
  · exact tok37
  · exact tok38
  · exact tok39
  · exact tok42
  · exact tok44
  · exact tok48
  · exact tok64
  · exact tok65
  · exact tok66
  · exact tok67
  · exact tok80
  · exact tok81
  · exact tok91
theorem tt_eq : eqOkB Try.prog TT = true := by kernel_rfl
theorem tt_one : oneB TT = true := by kernel_rfl


end Go.Proofs.Ytpcaiefefanpoaa
