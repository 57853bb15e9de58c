/- The program's types in a table of the engine's kind, each row proved against the program. -/
import Derived.Test.YtfjmhnfaoifehaaProg
import Derived.Test.YtfjmhnfaoifehaaEng2
import Derived.KernelRfl
namespace Go.Proofs.Ytfjmhnfaoifehaa
open Go.Proofs.Ytfjmhnfaoifehaa.Eng Go.RowKit

def TT : List (Nat × TI) :=
  [(2, ⟨.int .i64, 1, 8, some [(.int .i64 0)]⟩),
   (3, ⟨.int .i64, 1, 8, some [(.int .i64 0)]⟩),
   (4, ⟨.bool, 1, 1, some [(.bool false)]⟩),
   (5, ⟨.int .u8, 1, 1, some [(.int .u8 0)]⟩),
   (9, ⟨.str, 1, 16, some [(.string ByteArray.empty)]⟩),
   (12, ⟨.int .u64, 1, 8, some [(.int .u64 0)]⟩),
   (21, ⟨.int .i32, 1, 4, some [(.int .i32 0)]⟩),
   (22, ⟨.int .u64, 1, 8, some [(.int .u64 0)]⟩),
   (23, ⟨.slice 31, 1, 24, some [(.slice none 0 0)]⟩),
   (24, ⟨.slice 5, 1, 24, some [(.slice none 0 0)]⟩),
   (26, ⟨.ptr 52, 1, 8, some [(.pointer none)]⟩),
   (29, ⟨.int .i64, 1, 8, some [(.int .i64 0)]⟩),
   (31, ⟨.int .u8, 1, 1, some [(.int .u8 0)]⟩),
   (36, ⟨.slice 40, 1, 24, some [(.slice none 0 0)]⟩),
   (37, ⟨.ptr 46, 1, 8, some [(.pointer none)]⟩),
   (39, ⟨.struct [(5, 0), (22, 1), (22, 2), (31, 3), (3, 4)], 5, 40, some [(.int .u8 0), (.int .u64 0), (.int .u64 0), (.int .u8 0), (.int .i64 0)]⟩),
   (40, ⟨.struct [(5, 0), (22, 1), (22, 2), (31, 3), (3, 4)], 5, 40, some [(.int .u8 0), (.int .u64 0), (.int .u64 0), (.int .u8 0), (.int .i64 0)]⟩),
   (45, ⟨.struct [(22, 0), (22, 1), (23, 2)], 3, 40, some [(.int .u64 0), (.int .u64 0), (.slice none 0 0)]⟩),
   (46, ⟨.struct [(22, 0), (22, 1), (23, 2)], 3, 40, some [(.int .u64 0), (.int .u64 0), (.slice none 0 0)]⟩),
   (51, ⟨.struct [(22, 0), (23, 1), (31, 2)], 3, 40, some [(.int .u64 0), (.slice none 0 0), (.int .u8 0)]⟩),
   (52, ⟨.struct [(22, 0), (23, 1), (31, 2)], 3, 40, some [(.int .u64 0), (.slice none 0 0), (.int .u8 0)]⟩),
   (62, ⟨.int .u32, 1, 4, some [(.int .u32 0)]⟩),
   (66, ⟨.ptr 5, 1, 8, some [(.pointer none)]⟩)]

theorem tok2 : TOk Try.prog 2 ⟨.int .i64, 1, 8, some [(.int .i64 0)]⟩ := ⟨⟨_, Try.underlying2, rfl⟩, Try.sizeOf2, fun w => ⟨_, Try.typeInfo2 w, rfl⟩, fun z hz w => by cases hz; exact ⟨_, Try.zeroValue2 w, rfl⟩⟩
theorem tok3 : TOk Try.prog 3 ⟨.int .i64, 1, 8, some [(.int .i64 0)]⟩ := ⟨⟨_, Try.underlying3, rfl⟩, Try.sizeOf3, fun w => ⟨_, Try.typeInfo3 w, rfl⟩, fun z hz w => by cases hz; exact ⟨_, Try.zeroValue3 w, rfl⟩⟩
theorem tok4 : TOk Try.prog 4 ⟨.bool, 1, 1, some [(.bool false)]⟩ := ⟨⟨_, Try.underlying4, rfl⟩, Try.sizeOf4, fun w => ⟨_, Try.typeInfo4 w, rfl⟩, fun z hz w => by cases hz; exact ⟨_, Try.zeroValue4 w, rfl⟩⟩
theorem tok5 : TOk Try.prog 5 ⟨.int .u8, 1, 1, some [(.int .u8 0)]⟩ := ⟨⟨_, Try.underlying5, rfl⟩, Try.sizeOf5, fun w => ⟨_, Try.typeInfo5 w, rfl⟩, fun z hz w => by cases hz; exact ⟨_, Try.zeroValue5 w, rfl⟩⟩
theorem tok9 : TOk Try.prog 9 ⟨.str, 1, 16, some [(.string ByteArray.empty)]⟩ := ⟨⟨_, Try.underlying9, rfl⟩, Try.sizeOf9, fun w => ⟨_, Try.typeInfo9 w, rfl⟩, fun z hz w => by cases hz; exact ⟨_, Try.zeroValue9 w, rfl⟩⟩
theorem tok12 : TOk Try.prog 12 ⟨.int .u64, 1, 8, some [(.int .u64 0)]⟩ := ⟨⟨_, Try.underlying12, rfl⟩, Try.sizeOf12, fun w => ⟨_, Try.typeInfo12 w, rfl⟩, fun z hz w => by cases hz; exact ⟨_, Try.zeroValue12 w, rfl⟩⟩
theorem tok21 : TOk Try.prog 21 ⟨.int .i32, 1, 4, some [(.int .i32 0)]⟩ := ⟨⟨_, Try.underlying21, rfl⟩, Try.sizeOf21, fun w => ⟨_, Try.typeInfo21 w, rfl⟩, fun z hz w => by cases hz; exact ⟨_, Try.zeroValue21 w, rfl⟩⟩
theorem tok22 : TOk Try.prog 22 ⟨.int .u64, 1, 8, some [(.int .u64 0)]⟩ := ⟨⟨_, Try.underlying22, rfl⟩, Try.sizeOf22, fun w => ⟨_, Try.typeInfo22 w, rfl⟩, fun z hz w => by cases hz; exact ⟨_, Try.zeroValue22 w, rfl⟩⟩
theorem tok23 : TOk Try.prog 23 ⟨.slice 31, 1, 24, some [(.slice none 0 0)]⟩ := ⟨⟨_, Try.underlying23, rfl⟩, Try.sizeOf23, fun w => ⟨_, Try.typeInfo23 w, rfl⟩, fun z hz w => by cases hz; exact ⟨_, Try.zeroValue23 w, rfl⟩⟩
theorem tok24 : TOk Try.prog 24 ⟨.slice 5, 1, 24, some [(.slice none 0 0)]⟩ := ⟨⟨_, Try.underlying24, rfl⟩, Try.sizeOf24, fun w => ⟨_, Try.typeInfo24 w, rfl⟩, fun z hz w => by cases hz; exact ⟨_, Try.zeroValue24 w, rfl⟩⟩
theorem tok26 : TOk Try.prog 26 ⟨.ptr 52, 1, 8, some [(.pointer none)]⟩ := ⟨⟨_, Try.underlying26, rfl⟩, Try.sizeOf26, fun w => ⟨_, Try.typeInfo26 w, rfl⟩, fun z hz w => by cases hz; exact ⟨_, Try.zeroValue26 w, rfl⟩⟩
theorem tok29 : TOk Try.prog 29 ⟨.int .i64, 1, 8, some [(.int .i64 0)]⟩ := ⟨⟨_, Try.underlying29, rfl⟩, Try.sizeOf29, fun w => ⟨_, Try.typeInfo29 w, rfl⟩, fun z hz w => by cases hz; exact ⟨_, Try.zeroValue29 w, rfl⟩⟩
theorem tok31 : TOk Try.prog 31 ⟨.int .u8, 1, 1, some [(.int .u8 0)]⟩ := ⟨⟨_, Try.underlying31, rfl⟩, Try.sizeOf31, fun w => ⟨_, Try.typeInfo31 w, rfl⟩, fun z hz w => by cases hz; exact ⟨_, Try.zeroValue31 w, rfl⟩⟩
theorem tok36 : TOk Try.prog 36 ⟨.slice 40, 1, 24, some [(.slice none 0 0)]⟩ := ⟨⟨_, Try.underlying36, rfl⟩, Try.sizeOf36, fun w => ⟨_, Try.typeInfo36 w, rfl⟩, fun z hz w => by cases hz; exact ⟨_, Try.zeroValue36 w, rfl⟩⟩
theorem tok37 : TOk Try.prog 37 ⟨.ptr 46, 1, 8, some [(.pointer none)]⟩ := ⟨⟨_, Try.underlying37, rfl⟩, Try.sizeOf37, fun w => ⟨_, Try.typeInfo37 w, rfl⟩, fun z hz w => by cases hz; exact ⟨_, Try.zeroValue37 w, rfl⟩⟩
theorem tok39 : TOk Try.prog 39 ⟨.struct [(5, 0), (22, 1), (22, 2), (31, 3), (3, 4)], 5, 40, some [(.int .u8 0), (.int .u64 0), (.int .u64 0), (.int .u8 0), (.int .i64 0)]⟩ := ⟨⟨_, Try.underlying39, ⟨_, rfl, rfl⟩⟩, Try.sizeOf39, fun w => ⟨_, Try.typeInfo39 w, rfl⟩, fun z hz w => by cases hz; exact ⟨_, Try.zeroValue39 w, rfl⟩⟩
theorem tok40 : TOk Try.prog 40 ⟨.struct [(5, 0), (22, 1), (22, 2), (31, 3), (3, 4)], 5, 40, some [(.int .u8 0), (.int .u64 0), (.int .u64 0), (.int .u8 0), (.int .i64 0)]⟩ := ⟨⟨_, Try.underlying40, ⟨_, rfl, rfl⟩⟩, Try.sizeOf40, fun w => ⟨_, Try.typeInfo40 w, rfl⟩, fun z hz w => by cases hz; exact ⟨_, Try.zeroValue40 w, rfl⟩⟩
theorem tok45 : TOk Try.prog 45 ⟨.struct [(22, 0), (22, 1), (23, 2)], 3, 40, some [(.int .u64 0), (.int .u64 0), (.slice none 0 0)]⟩ := ⟨⟨_, Try.underlying45, ⟨_, rfl, rfl⟩⟩, Try.sizeOf45, fun w => ⟨_, Try.typeInfo45 w, rfl⟩, fun z hz w => by cases hz; exact ⟨_, Try.zeroValue45 w, rfl⟩⟩
theorem tok46 : TOk Try.prog 46 ⟨.struct [(22, 0), (22, 1), (23, 2)], 3, 40, some [(.int .u64 0), (.int .u64 0), (.slice none 0 0)]⟩ := ⟨⟨_, Try.underlying46, ⟨_, rfl, rfl⟩⟩, Try.sizeOf46, fun w => ⟨_, Try.typeInfo46 w, rfl⟩, fun z hz w => by cases hz; exact ⟨_, Try.zeroValue46 w, rfl⟩⟩
theorem tok51 : TOk Try.prog 51 ⟨.struct [(22, 0), (23, 1), (31, 2)], 3, 40, some [(.int .u64 0), (.slice none 0 0), (.int .u8 0)]⟩ := ⟨⟨_, Try.underlying51, ⟨_, rfl, rfl⟩⟩, Try.sizeOf51, fun w => ⟨_, Try.typeInfo51 w, rfl⟩, fun z hz w => by cases hz; exact ⟨_, Try.zeroValue51 w, rfl⟩⟩
theorem tok52 : TOk Try.prog 52 ⟨.struct [(22, 0), (23, 1), (31, 2)], 3, 40, some [(.int .u64 0), (.slice none 0 0), (.int .u8 0)]⟩ := ⟨⟨_, Try.underlying52, ⟨_, rfl, rfl⟩⟩, Try.sizeOf52, fun w => ⟨_, Try.typeInfo52 w, rfl⟩, fun z hz w => by cases hz; exact ⟨_, Try.zeroValue52 w, rfl⟩⟩
theorem tok62 : TOk Try.prog 62 ⟨.int .u32, 1, 4, some [(.int .u32 0)]⟩ := ⟨⟨_, Try.underlying62, rfl⟩, Try.sizeOf62, fun w => ⟨_, Try.typeInfo62 w, rfl⟩, fun z hz w => by cases hz; exact ⟨_, Try.zeroValue62 w, rfl⟩⟩
theorem tok66 : TOk Try.prog 66 ⟨.ptr 5, 1, 8, some [(.pointer none)]⟩ := ⟨⟨_, Try.underlying66, rfl⟩, Try.sizeOf66, fun w => ⟨_, Try.typeInfo66 w, rfl⟩, fun z hz w => by cases hz; exact ⟨_, Try.zeroValue66 w, rfl⟩⟩
theorem ctt_ok : CTabOk Try.prog TT := by
  intro x hx
  simp only [TT, List.mem_cons, List.not_mem_nil, or_false] at hx
  rcases hx with rfl | rfl | rfl | rfl | rfl | rfl | rfl | rfl | rfl | rfl | rfl | rfl | rfl | rfl | rfl | rfl | rfl | rfl | rfl | rfl | rfl | rfl | rfl
  · exact ⟨by kernel_rfl, by kernel_rfl⟩
  · exact ⟨by kernel_rfl, by kernel_rfl⟩
  · exact ⟨by kernel_rfl, by kernel_rfl⟩
  · exact ⟨by kernel_rfl, by kernel_rfl⟩
  · exact ⟨by kernel_rfl, by kernel_rfl⟩
  · exact ⟨by kernel_rfl, by kernel_rfl⟩
  · exact ⟨by kernel_rfl, by kernel_rfl⟩
  · exact ⟨by kernel_rfl, by kernel_rfl⟩
  · exact ⟨by kernel_rfl, by kernel_rfl⟩
  · exact ⟨by kernel_rfl, by kernel_rfl⟩
  · exact ⟨by kernel_rfl, by kernel_rfl⟩
  · exact ⟨by kernel_rfl, by kernel_rfl⟩
  · exact ⟨by kernel_rfl, by kernel_rfl⟩
  · exact ⟨by kernel_rfl, by kernel_rfl⟩
  · exact ⟨by kernel_rfl, by kernel_rfl⟩
  · exact ⟨by kernel_rfl, by kernel_rfl⟩
  · exact ⟨by kernel_rfl, by kernel_rfl⟩
  · exact ⟨by kernel_rfl, by kernel_rfl⟩
  · exact ⟨by kernel_rfl, by kernel_rfl⟩
  · exact ⟨by kernel_rfl, by kernel_rfl⟩
  · exact ⟨by kernel_rfl, by kernel_rfl⟩
  · exact ⟨by kernel_rfl, by kernel_rfl⟩
  · exact ⟨by kernel_rfl, by kernel_rfl⟩
theorem tt_closed : structsIn TT TT = true := by kernel_rfl
theorem tt_ok : TabOk Try.prog TT := by
  intro x hx
  simp only [TT, List.mem_cons, List.not_mem_nil, or_false] at hx
  rcases hx with rfl | rfl | rfl | rfl | rfl | rfl | rfl | rfl | rfl | rfl | rfl | rfl | rfl | rfl | rfl | rfl | rfl | rfl | rfl | rfl | rfl | rfl | rfl
  · exact tok2
  · exact tok3
  · exact tok4
  · exact tok5
  · exact tok9
  · exact tok12
  · exact tok21
  · exact tok22
  · exact tok23
  · exact tok24
  · exact tok26
  · exact tok29
  · exact tok31
  · exact tok36
  · exact tok37
  · exact tok39
  · exact tok40
  · exact tok45
  · exact tok46
  · exact tok51
  · exact tok52
  · exact tok62
  · exact tok66
theorem tt_eq : eqOkB Try.prog TT = true := by kernel_rfl
theorem tt_one : oneB TT = true := by kernel_rfl


end Go.Proofs.Ytfjmhnfaoifehaa
