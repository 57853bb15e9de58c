/- The program's types in a table of the engine's kind, each row proved against the program. -/
import Derived.Test.YtolmilcdhphnhaaProg
import Derived.Test.YtolmilcdhphnhaaEng2
import Derived.KernelRfl
namespace Go.Proofs.Ytolmilcdhphnhaa
open Go.Proofs.Ytolmilcdhphnhaa.Eng Go.RowKit

def TT : List (Nat × TI) :=
  [(2, ⟨.int .i64, 1, 8, some [(.int .i64 0)]⟩),
   (3, ⟨.int .i64, 1, 8, some [(.int .i64 0)]⟩),
   (4, ⟨.bool, 1, 1, some [(.bool false)]⟩),
   (5, ⟨.int .u8, 1, 1, some [(.int .u8 0)]⟩),
   (9, ⟨.str, 1, 16, some [(.string ByteArray.empty)]⟩),
   (12, ⟨.int .u64, 1, 8, some [(.int .u64 0)]⟩),
   (21, ⟨.int .i32, 1, 4, some [(.int .i32 0)]⟩),
   (23, ⟨.slice 35, 1, 24, some [(.slice none 0 0)]⟩),
   (24, ⟨.int .i64, 1, 8, some [(.int .i64 0)]⟩),
   (31, ⟨.int .u16, 1, 2, some [(.int .u16 0)]⟩),
   (35, ⟨.int .u8, 1, 1, some [(.int .u8 0)]⟩),
   (36, ⟨.int .u64, 1, 8, some [(.int .u64 0)]⟩),
   (42, ⟨.slice 9, 1, 24, some [(.slice none 0 0)]⟩),
   (44, ⟨.ptr 72, 1, 8, some [(.pointer none)]⟩),
   (46, ⟨.int .u64, 1, 8, some [(.int .u64 0)]⟩),
   (51, ⟨.ptr 53, 1, 8, some [(.pointer none)]⟩),
   (52, ⟨.struct [(9, 0), (3, 1), (3, 2)], 3, 32, some [(.string ByteArray.empty), (.int .i64 0), (.int .i64 0)]⟩),
   (53, ⟨.struct [(9, 0), (3, 1), (3, 2)], 3, 32, some [(.string ByteArray.empty), (.int .i64 0), (.int .i64 0)]⟩),
   (55, ⟨.slice 63, 1, 24, some [(.slice none 0 0)]⟩),
   (58, ⟨.slice 5, 1, 24, some [(.slice none 0 0)]⟩),
   (59, ⟨.struct [(58, 0)], 1, 24, some [(.slice none 0 0)]⟩),
   (60, ⟨.struct [(58, 0)], 1, 24, some [(.slice none 0 0)]⟩),
   (62, ⟨.struct [(3, 0), (35, 1)], 2, 16, some [(.int .i64 0), (.int .u8 0)]⟩),
   (63, ⟨.struct [(3, 0), (35, 1)], 2, 16, some [(.int .i64 0), (.int .u8 0)]⟩),
   (69, ⟨.struct [(9, 0), (24, 1)], 2, 24, some [(.string ByteArray.empty), (.int .i64 0)]⟩),
   (70, ⟨.struct [(9, 0), (24, 1)], 2, 24, some [(.string ByteArray.empty), (.int .i64 0)]⟩),
   (71, ⟨.struct [(70, 0)], 2, 24, some [(.string ByteArray.empty), (.int .i64 0)]⟩),
   (72, ⟨.struct [(70, 0)], 2, 24, some [(.string ByteArray.empty), (.int .i64 0)]⟩),
   (78, ⟨.ptr 60, 1, 8, some [(.pointer none)]⟩),
   (80, ⟨.ptr 70, 1, 8, some [(.pointer none)]⟩),
   (87, ⟨.int .u32, 1, 4, some [(.int .u32 0)]⟩),
   (91, ⟨.ptr 5, 1, 8, some [(.pointer none)]⟩)]

theorem tok2 : TOk Try.prog 2 ⟨.int .i64, 1, 8, some [(.int .i64 0)]⟩ := ⟨⟨_, Try.underlying2, rfl⟩, Try.sizeOf2, fun w => ⟨_, Try.typeInfo2 w, rfl⟩, fun z hz w => by cases hz; exact ⟨_, Try.zeroValue2 w, rfl⟩⟩
theorem tok3 : TOk Try.prog 3 ⟨.int .i64, 1, 8, some [(.int .i64 0)]⟩ := ⟨⟨_, Try.underlying3, rfl⟩, Try.sizeOf3, fun w => ⟨_, Try.typeInfo3 w, rfl⟩, fun z hz w => by cases hz; exact ⟨_, Try.zeroValue3 w, rfl⟩⟩
theorem tok4 : TOk Try.prog 4 ⟨.bool, 1, 1, some [(.bool false)]⟩ := ⟨⟨_, Try.underlying4, rfl⟩, Try.sizeOf4, fun w => ⟨_, Try.typeInfo4 w, rfl⟩, fun z hz w => by cases hz; exact ⟨_, Try.zeroValue4 w, rfl⟩⟩
theorem tok5 : TOk Try.prog 5 ⟨.int .u8, 1, 1, some [(.int .u8 0)]⟩ := ⟨⟨_, Try.underlying5, rfl⟩, Try.sizeOf5, fun w => ⟨_, Try.typeInfo5 w, rfl⟩, fun z hz w => by cases hz; exact ⟨_, Try.zeroValue5 w, rfl⟩⟩
theorem tok9 : TOk Try.prog 9 ⟨.str, 1, 16, some [(.string ByteArray.empty)]⟩ := ⟨⟨_, Try.underlying9, rfl⟩, Try.sizeOf9, fun w => ⟨_, Try.typeInfo9 w, rfl⟩, fun z hz w => by cases hz; exact ⟨_, Try.zeroValue9 w, rfl⟩⟩
theorem tok12 : TOk Try.prog 12 ⟨.int .u64, 1, 8, some [(.int .u64 0)]⟩ := ⟨⟨_, Try.underlying12, rfl⟩, Try.sizeOf12, fun w => ⟨_, Try.typeInfo12 w, rfl⟩, fun z hz w => by cases hz; exact ⟨_, Try.zeroValue12 w, rfl⟩⟩
theorem tok21 : TOk Try.prog 21 ⟨.int .i32, 1, 4, some [(.int .i32 0)]⟩ := ⟨⟨_, Try.underlying21, rfl⟩, Try.sizeOf21, fun w => ⟨_, Try.typeInfo21 w, rfl⟩, fun z hz w => by cases hz; exact ⟨_, Try.zeroValue21 w, rfl⟩⟩
theorem tok23 : TOk Try.prog 23 ⟨.slice 35, 1, 24, some [(.slice none 0 0)]⟩ := ⟨⟨_, Try.underlying23, rfl⟩, Try.sizeOf23, fun w => ⟨_, Try.typeInfo23 w, rfl⟩, fun z hz w => by cases hz; exact ⟨_, Try.zeroValue23 w, rfl⟩⟩
theorem tok24 : TOk Try.prog 24 ⟨.int .i64, 1, 8, some [(.int .i64 0)]⟩ := ⟨⟨_, Try.underlying24, rfl⟩, Try.sizeOf24, fun w => ⟨_, Try.typeInfo24 w, rfl⟩, fun z hz w => by cases hz; exact ⟨_, Try.zeroValue24 w, rfl⟩⟩
theorem tok31 : TOk Try.prog 31 ⟨.int .u16, 1, 2, some [(.int .u16 0)]⟩ := ⟨⟨_, Try.underlying31, rfl⟩, Try.sizeOf31, fun w => ⟨_, Try.typeInfo31 w, rfl⟩, fun z hz w => by cases hz; exact ⟨_, Try.zeroValue31 w, rfl⟩⟩
theorem tok35 : TOk Try.prog 35 ⟨.int .u8, 1, 1, some [(.int .u8 0)]⟩ := ⟨⟨_, Try.underlying35, rfl⟩, Try.sizeOf35, fun w => ⟨_, Try.typeInfo35 w, rfl⟩, fun z hz w => by cases hz; exact ⟨_, Try.zeroValue35 w, rfl⟩⟩
theorem tok36 : TOk Try.prog 36 ⟨.int .u64, 1, 8, some [(.int .u64 0)]⟩ := ⟨⟨_, Try.underlying36, rfl⟩, Try.sizeOf36, fun w => ⟨_, Try.typeInfo36 w, rfl⟩, fun z hz w => by cases hz; exact ⟨_, Try.zeroValue36 w, rfl⟩⟩
theorem tok42 : TOk Try.prog 42 ⟨.slice 9, 1, 24, some [(.slice none 0 0)]⟩ := ⟨⟨_, Try.underlying42, rfl⟩, Try.sizeOf42, fun w => ⟨_, Try.typeInfo42 w, rfl⟩, fun z hz w => by cases hz; exact ⟨_, Try.zeroValue42 w, rfl⟩⟩
theorem tok44 : TOk Try.prog 44 ⟨.ptr 72, 1, 8, some [(.pointer none)]⟩ := ⟨⟨_, Try.underlying44, rfl⟩, Try.sizeOf44, fun w => ⟨_, Try.typeInfo44 w, rfl⟩, fun z hz w => by cases hz; exact ⟨_, Try.zeroValue44 w, rfl⟩⟩
theorem tok46 : TOk Try.prog 46 ⟨.int .u64, 1, 8, some [(.int .u64 0)]⟩ := ⟨⟨_, Try.underlying46, rfl⟩, Try.sizeOf46, fun w => ⟨_, Try.typeInfo46 w, rfl⟩, fun z hz w => by cases hz; exact ⟨_, Try.zeroValue46 w, rfl⟩⟩
theorem tok51 : TOk Try.prog 51 ⟨.ptr 53, 1, 8, some [(.pointer none)]⟩ := ⟨⟨_, Try.underlying51, rfl⟩, Try.sizeOf51, fun w => ⟨_, Try.typeInfo51 w, rfl⟩, fun z hz w => by cases hz; exact ⟨_, Try.zeroValue51 w, rfl⟩⟩
theorem tok52 : TOk Try.prog 52 ⟨.struct [(9, 0), (3, 1), (3, 2)], 3, 32, some [(.string ByteArray.empty), (.int .i64 0), (.int .i64 0)]⟩ := ⟨⟨_, Try.underlying52, ⟨_, rfl, rfl⟩⟩, Try.sizeOf52, fun w => ⟨_, Try.typeInfo52 w, rfl⟩, fun z hz w => by cases hz; exact ⟨_, Try.zeroValue52 w, rfl⟩⟩
theorem tok53 : TOk Try.prog 53 ⟨.struct [(9, 0), (3, 1), (3, 2)], 3, 32, some [(.string ByteArray.empty), (.int .i64 0), (.int .i64 0)]⟩ := ⟨⟨_, Try.underlying53, ⟨_, rfl, rfl⟩⟩, Try.sizeOf53, fun w => ⟨_, Try.typeInfo53 w, rfl⟩, fun z hz w => by cases hz; exact ⟨_, Try.zeroValue53 w, rfl⟩⟩
theorem tok55 : TOk Try.prog 55 ⟨.slice 63, 1, 24, some [(.slice none 0 0)]⟩ := ⟨⟨_, Try.underlying55, rfl⟩, Try.sizeOf55, fun w => ⟨_, Try.typeInfo55 w, rfl⟩, fun z hz w => by cases hz; exact ⟨_, Try.zeroValue55 w, rfl⟩⟩
theorem tok58 : TOk Try.prog 58 ⟨.slice 5, 1, 24, some [(.slice none 0 0)]⟩ := ⟨⟨_, Try.underlying58, rfl⟩, Try.sizeOf58, fun w => ⟨_, Try.typeInfo58 w, rfl⟩, fun z hz w => by cases hz; exact ⟨_, Try.zeroValue58 w, rfl⟩⟩
theorem tok59 : TOk Try.prog 59 ⟨.struct [(58, 0)], 1, 24, some [(.slice none 0 0)]⟩ := ⟨⟨_, Try.underlying59, ⟨_, rfl, rfl⟩⟩, Try.sizeOf59, fun w => ⟨_, Try.typeInfo59 w, rfl⟩, fun z hz w => by cases hz; exact ⟨_, Try.zeroValue59 w, rfl⟩⟩
theorem tok60 : TOk Try.prog 60 ⟨.struct [(58, 0)], 1, 24, some [(.slice none 0 0)]⟩ := ⟨⟨_, Try.underlying60, ⟨_, rfl, rfl⟩⟩, Try.sizeOf60, fun w => ⟨_, Try.typeInfo60 w, rfl⟩, fun z hz w => by cases hz; exact ⟨_, Try.zeroValue60 w, rfl⟩⟩
theorem tok62 : TOk Try.prog 62 ⟨.struct [(3, 0), (35, 1)], 2, 16, some [(.int .i64 0), (.int .u8 0)]⟩ := ⟨⟨_, Try.underlying62, ⟨_, rfl, rfl⟩⟩, Try.sizeOf62, fun w => ⟨_, Try.typeInfo62 w, rfl⟩, fun z hz w => by cases hz; exact ⟨_, Try.zeroValue62 w, rfl⟩⟩
theorem tok63 : TOk Try.prog 63 ⟨.struct [(3, 0), (35, 1)], 2, 16, some [(.int .i64 0), (.int .u8 0)]⟩ := ⟨⟨_, Try.underlying63, ⟨_, rfl, rfl⟩⟩, Try.sizeOf63, fun w => ⟨_, Try.typeInfo63 w, rfl⟩, fun z hz w => by cases hz; exact ⟨_, Try.zeroValue63 w, rfl⟩⟩
theorem tok69 : TOk Try.prog 69 ⟨.struct [(9, 0), (24, 1)], 2, 24, some [(.string ByteArray.empty), (.int .i64 0)]⟩ := ⟨⟨_, Try.underlying69, ⟨_, rfl, rfl⟩⟩, Try.sizeOf69, fun w => ⟨_, Try.typeInfo69 w, rfl⟩, fun z hz w => by cases hz; exact ⟨_, Try.zeroValue69 w, rfl⟩⟩
theorem tok70 : TOk Try.prog 70 ⟨.struct [(9, 0), (24, 1)], 2, 24, some [(.string ByteArray.empty), (.int .i64 0)]⟩ := ⟨⟨_, Try.underlying70, ⟨_, rfl, rfl⟩⟩, Try.sizeOf70, fun w => ⟨_, Try.typeInfo70 w, rfl⟩, fun z hz w => by cases hz; exact ⟨_, Try.zeroValue70 w, rfl⟩⟩
theorem tok71 : TOk Try.prog 71 ⟨.struct [(70, 0)], 2, 24, some [(.string ByteArray.empty), (.int .i64 0)]⟩ := ⟨⟨_, Try.underlying71, ⟨_, rfl, rfl⟩⟩, Try.sizeOf71, fun w => ⟨_, Try.typeInfo71 w, rfl⟩, fun z hz w => by cases hz; exact ⟨_, Try.zeroValue71 w, rfl⟩⟩
theorem tok72 : TOk Try.prog 72 ⟨.struct [(70, 0)], 2, 24, some [(.string ByteArray.empty), (.int .i64 0)]⟩ := ⟨⟨_, Try.underlying72, ⟨_, rfl, rfl⟩⟩, Try.sizeOf72, fun w => ⟨_, Try.typeInfo72 w, rfl⟩, fun z hz w => by cases hz; exact ⟨_, Try.zeroValue72 w, rfl⟩⟩
theorem tok78 : TOk Try.prog 78 ⟨.ptr 60, 1, 8, some [(.pointer none)]⟩ := ⟨⟨_, Try.underlying78, rfl⟩, Try.sizeOf78, fun w => ⟨_, Try.typeInfo78 w, rfl⟩, fun z hz w => by cases hz; exact ⟨_, Try.zeroValue78 w, rfl⟩⟩
theorem tok80 : TOk Try.prog 80 ⟨.ptr 70, 1, 8, some [(.pointer none)]⟩ := ⟨⟨_, Try.underlying80, rfl⟩, Try.sizeOf80, fun w => ⟨_, Try.typeInfo80 w, rfl⟩, fun z hz w => by cases hz; exact ⟨_, Try.zeroValue80 w, rfl⟩⟩
theorem tok87 : TOk Try.prog 87 ⟨.int .u32, 1, 4, some [(.int .u32 0)]⟩ := ⟨⟨_, Try.underlying87, rfl⟩, Try.sizeOf87, fun w => ⟨_, Try.typeInfo87 w, rfl⟩, fun z hz w => by cases hz; exact ⟨_, Try.zeroValue87 w, rfl⟩⟩
theorem tok91 : TOk Try.prog 91 ⟨.ptr 5, 1, 8, some [(.pointer none)]⟩ := ⟨⟨_, Try.underlying91, rfl⟩, Try.sizeOf91, fun w => ⟨_, Try.typeInfo91 w, rfl⟩, fun z hz w => by cases hz; exact ⟨_, Try.zeroValue91 w, rfl⟩⟩
theorem ctt_ok : CTabOk Try.prog TT := by
  intro x hx
  simp only [TT, List.mem_cons, List.not_mem_nil, or_false] at hx
  rcases hx with rfl | rfl | rfl | rfl | rfl | rfl | rfl | rfl | rfl | rfl | rfl | rfl | rfl | rfl | rfl | rfl | rfl | rfl | rfl | rfl | rfl | rfl | rfl | rfl | rfl | rfl | rfl | rfl | rfl | rfl | rfl | rfl
  · exact ⟨by kernel_rfl, by kernel_rfl⟩
  · exact ⟨by kernel_rfl, by kernel_rfl⟩
  · exact ⟨by kernel_rfl, by kernel_rfl⟩
  · exact ⟨by kernel_rfl, by kernel_rfl⟩
  · exact ⟨by kernel_rfl, by kernel_rfl⟩
  · exact ⟨by kernel_rfl, by kernel_rfl⟩
  · exact ⟨by kernel_rfl, by kernel_rfl⟩
  · exact ⟨by kernel_rfl, by kernel_rfl⟩
  · exact ⟨by kernel_rfl, by kernel_rfl⟩
  · exact ⟨by kernel_rfl, by kernel_rfl⟩
  · exact ⟨by kernel_rfl, by kernel_rfl⟩
  · exact ⟨by kernel_rfl, by kernel_rfl⟩
  · exact ⟨by kernel_rfl, by kernel_rfl⟩
  · exact ⟨by kernel_rfl, by kernel_rfl⟩
  · exact ⟨by kernel_rfl, by kernel_rfl⟩
  · exact ⟨by kernel_rfl, by kernel_rfl⟩
  · exact ⟨by kernel_rfl, by kernel_rfl⟩
  · exact ⟨by kernel_rfl, by kernel_rfl⟩
  · exact ⟨by kernel_rfl, by kernel_rfl⟩
  · exact ⟨by kernel_rfl, by kernel_rfl⟩
  · exact ⟨by kernel_rfl, by kernel_rfl⟩
  · exact ⟨by kernel_rfl, by kernel_rfl⟩
  · exact ⟨by kernel_rfl, by kernel_rfl⟩
  · exact ⟨by kernel_rfl, by kernel_rfl⟩
  · exact ⟨by kernel_rfl, by kernel_rfl⟩
  · exact ⟨by kernel_rfl, by kernel_rfl⟩
  · exact ⟨by kernel_rfl, by kernel_rfl⟩
  · exact ⟨by kernel_rfl, by kernel_rfl⟩
  · exact ⟨by kernel_rfl, by kernel_rfl⟩
  · exact ⟨by kernel_rfl, by kernel_rfl⟩
  · exact ⟨by kernel_rfl, by kernel_rfl⟩
  · exact ⟨by kernel_rfl, by kernel_rfl⟩
theorem tt_closed : structsIn TT TT = true := by kernel_rfl
theorem tt_ok : TabOk Try.prog TT := by
  intro x hx
  simp only [TT, List.mem_cons, List.not_mem_nil, or_false] at hx
  rcases hx with rfl | rfl | rfl | rfl | rfl | rfl | rfl | rfl | rfl | rfl | rfl | rfl | rfl | rfl | rfl | rfl | rfl | rfl | rfl | rfl | rfl | rfl | rfl | rfl | rfl | rfl | rfl | rfl | rfl | rfl | rfl | rfl
  · exact tok2
  · exact tok3
  · exact tok4
  · exact tok5
  · exact tok9
  · exact tok12
  · exact tok21
  · exact tok23
  · exact tok24
  · exact tok31
  · exact tok35
  · exact tok36
  · exact tok42
  · exact tok44
  · exact tok46
  · exact tok51
  · exact tok52
  · exact tok53
  · exact tok55
  · exact tok58
  · exact tok59
  · exact tok60
  · exact tok62
  · exact tok63
  · exact tok69
  · exact tok70
  · exact tok71
  · exact tok72
  · exact tok78
  · exact tok80
  · exact tok87
  · exact tok91
theorem tt_eq : eqOkB Try.prog TT = true := by kernel_rfl
theorem tt_one : oneB TT = true := by kernel_rfl


end Go.Proofs.Ytolmilcdhphnhaa
