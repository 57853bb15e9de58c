/- The program's types in a table of the engine's kind, each row proved against the program. -/
import Derived.Test.YtfmicjjbbeffjaaProg
import Derived.Test.YtfmicjjbbeffjaaEng
import Derived.KernelRfl
namespace Go.Proofs.Ytfmicjjbbeffjaa
open Go.Proofs.Ytfmicjjbbeffjaa.Eng Go.RowKit

def TT : List (Nat × TI) :=
  [(2, ⟨.int .i64, 1, 8, some [(.int .i64 0)]⟩),
   (3, ⟨.int .i64, 1, 8, some [(.int .i64 0)]⟩),
   (4, ⟨.bool, 1, 1, some [(.bool false)]⟩),
   (5, ⟨.int .u8, 1, 1, some [(.int .u8 0)]⟩),
   (9, ⟨.str, 1, 16, some [(.string ByteArray.empty)]⟩),
   (12, ⟨.int .u64, 1, 8, some [(.int .u64 0)]⟩),
   (21, ⟨.int .i32, 1, 4, some [(.int .i32 0)]⟩),
   (22, ⟨.struct [(21, 0), (21, 1), (21, 2), (21, 3)], 4, 16, some [(.int .i32 0), (.int .i32 0), (.int .i32 0), (.int .i32 0)]⟩),
   (23, ⟨.struct [(21, 0), (21, 1), (21, 2), (21, 3)], 4, 16, some [(.int .i32 0), (.int .i32 0), (.int .i32 0), (.int .i32 0)]⟩),
   (26, ⟨.arr 2 21, 2, 8, some [(.int .i32 0), (.int .i32 0)]⟩),
   (32, ⟨.arr 4 21, 4, 16, some [(.int .i32 0), (.int .i32 0), (.int .i32 0), (.int .i32 0)]⟩),
   (42, ⟨.struct [(2, 0), (2, 1)], 2, 16, some [(.int .i64 0), (.int .i64 0)]⟩),
   (43, ⟨.struct [(2, 0), (2, 1)], 2, 16, some [(.int .i64 0), (.int .i64 0)]⟩),
   (61, ⟨.int .u32, 1, 4, some [(.int .u32 0)]⟩),
   (65, ⟨.ptr 5, 1, 8, some [(.pointer none)]⟩)]

theorem tok2 : TOk Try.prog 2 ⟨.int .i64, 1, 8, some [(.int .i64 0)]⟩ := ⟨⟨_, Try.underlying2, rfl⟩, Try.sizeOf2, fun w => ⟨_, Try.typeInfo2 w, rfl⟩, fun z hz w => by cases hz; exact ⟨_, Try.zeroValue2 w, rfl⟩⟩
theorem tok3 : TOk Try.prog 3 ⟨.int .i64, 1, 8, some [(.int .i64 0)]⟩ := ⟨⟨_, Try.underlying3, rfl⟩, Try.sizeOf3, fun w => ⟨_, Try.typeInfo3 w, rfl⟩, fun z hz w => by cases hz; exact ⟨_, Try.zeroValue3 w, rfl⟩⟩
theorem tok4 : TOk Try.prog 4 ⟨.bool, 1, 1, some [(.bool false)]⟩ := ⟨⟨_, Try.underlying4, rfl⟩, Try.sizeOf4, fun w => ⟨_, Try.typeInfo4 w, rfl⟩, fun z hz w => by cases hz; exact ⟨_, Try.zeroValue4 w, rfl⟩⟩
theorem tok5 : TOk Try.prog 5 ⟨.int .u8, 1, 1, some [(.int .u8 0)]⟩ := ⟨⟨_, Try.underlying5, rfl⟩, Try.sizeOf5, fun w => ⟨_, Try.typeInfo5 w, rfl⟩, fun z hz w => by cases hz; exact ⟨_, Try.zeroValue5 w, rfl⟩⟩
theorem tok9 : TOk Try.prog 9 ⟨.str, 1, 16, some [(.string ByteArray.empty)]⟩ := ⟨⟨_, Try.underlying9, rfl⟩, Try.sizeOf9, fun w => ⟨_, Try.typeInfo9 w, rfl⟩, fun z hz w => by cases hz; exact ⟨_, Try.zeroValue9 w, rfl⟩⟩
theorem tok12 : TOk Try.prog 12 ⟨.int .u64, 1, 8, some [(.int .u64 0)]⟩ := ⟨⟨_, Try.underlying12, rfl⟩, Try.sizeOf12, fun w => ⟨_, Try.typeInfo12 w, rfl⟩, fun z hz w => by cases hz; exact ⟨_, Try.zeroValue12 w, rfl⟩⟩
theorem tok21 : TOk Try.prog 21 ⟨.int .i32, 1, 4, some [(.int .i32 0)]⟩ := ⟨⟨_, Try.underlying21, rfl⟩, Try.sizeOf21, fun w => ⟨_, Try.typeInfo21 w, rfl⟩, fun z hz w => by cases hz; exact ⟨_, Try.zeroValue21 w, rfl⟩⟩
theorem tok22 : TOk Try.prog 22 ⟨.struct [(21, 0), (21, 1), (21, 2), (21, 3)], 4, 16, some [(.int .i32 0), (.int .i32 0), (.int .i32 0), (.int .i32 0)]⟩ := ⟨⟨_, Try.underlying22, ⟨_, rfl, rfl⟩⟩, Try.sizeOf22, fun w => ⟨_, Try.typeInfo22 w, rfl⟩, fun z hz w => by cases hz; exact ⟨_, Try.zeroValue22 w, rfl⟩⟩
theorem tok23 : TOk Try.prog 23 ⟨.struct [(21, 0), (21, 1), (21, 2), (21, 3)], 4, 16, some [(.int .i32 0), (.int .i32 0), (.int .i32 0), (.int .i32 0)]⟩ := ⟨⟨_, Try.underlying23, ⟨_, rfl, rfl⟩⟩, Try.sizeOf23, fun w => ⟨_, Try.typeInfo23 w, rfl⟩, fun z hz w => by cases hz; exact ⟨_, Try.zeroValue23 w, rfl⟩⟩
theorem tok26 : TOk Try.prog 26 ⟨.arr 2 21, 2, 8, some [(.int .i32 0), (.int .i32 0)]⟩ := ⟨⟨_, Try.underlying26, rfl⟩, Try.sizeOf26, fun w => ⟨_, Try.typeInfo26 w, rfl⟩, fun z hz w => by cases hz; exact ⟨_, Try.zeroValue26 w, rfl⟩⟩
theorem tok32 : TOk Try.prog 32 ⟨.arr 4 21, 4, 16, some [(.int .i32 0), (.int .i32 0), (.int .i32 0), (.int .i32 0)]⟩ := ⟨⟨_, Try.underlying32, rfl⟩, Try.sizeOf32, fun w => ⟨_, Try.typeInfo32 w, rfl⟩, fun z hz w => by cases hz; exact ⟨_, Try.zeroValue32 w, rfl⟩⟩
theorem tok42 : TOk Try.prog 42 ⟨.struct [(2, 0), (2, 1)], 2, 16, some [(.int .i64 0), (.int .i64 0)]⟩ := ⟨⟨_, Try.underlying42, ⟨_, rfl, rfl⟩⟩, Try.sizeOf42, fun w => ⟨_, Try.typeInfo42 w, rfl⟩, fun z hz w => by cases hz; exact ⟨_, Try.zeroValue42 w, rfl⟩⟩
theorem tok43 : TOk Try.prog 43 ⟨.struct [(2, 0), (2, 1)], 2, 16, some [(.int .i64 0), (.int .i64 0)]⟩ := ⟨⟨_, Try.underlying43, ⟨_, rfl, rfl⟩⟩, Try.sizeOf43, fun w => ⟨_, Try.typeInfo43 w, rfl⟩, fun z hz w => by cases hz; exact ⟨_, Try.zeroValue43 w, rfl⟩⟩
theorem tok61 : TOk Try.prog 61 ⟨.int .u32, 1, 4, some [(.int .u32 0)]⟩ := ⟨⟨_, Try.underlying61, rfl⟩, Try.sizeOf61, fun w => ⟨_, Try.typeInfo61 w, rfl⟩, fun z hz w => by cases hz; exact ⟨_, Try.zeroValue61 w, rfl⟩⟩
theorem tok65 : TOk Try.prog 65 ⟨.ptr 5, 1, 8, some [(.pointer none)]⟩ := ⟨⟨_, Try.underlying65, rfl⟩, Try.sizeOf65, fun w => ⟨_, Try.typeInfo65 w, rfl⟩, fun z hz w => by cases hz; exact ⟨_, Try.zeroValue65 w, rfl⟩⟩
theorem ctt_ok : CTabOk Try.prog TT := by
  intro x hx
  simp only [TT, List.mem_cons, List.not_mem_nil, or_false] at hx
  rcases hx with rfl | rfl | rfl | rfl | rfl | rfl | rfl | rfl | rfl | rfl | rfl | rfl | rfl | rfl | rfl
  · exact ⟨by kernel_rfl, by kernel_rfl⟩
  · exact ⟨by kernel_rfl, by kernel_rfl⟩
  · exact ⟨by kernel_rfl, by kernel_rfl⟩
  · exact ⟨by kernel_rfl, by kernel_rfl⟩
  · exact ⟨by kernel_rfl, by kernel_rfl⟩
  · exact ⟨by kernel_rfl, by kernel_rfl⟩
  · exact ⟨by kernel_rfl, by kernel_rfl⟩
  · exact ⟨by kernel_rfl, by kernel_rfl⟩
  · exact ⟨by kernel_rfl, by kernel_rfl⟩
  · exact ⟨by kernel_rfl, by kernel_rfl⟩
  · exact ⟨by kernel_rfl, by kernel_rfl⟩
  · exact ⟨by kernel_rfl, by kernel_rfl⟩
  · exact ⟨by kernel_rfl, by kernel_rfl⟩
  · exact ⟨by kernel_rfl, by kernel_rfl⟩
  · exact ⟨by kernel_rfl, by kernel_rfl⟩
theorem tt_closed : structsIn TT TT = true := by kernel_rfl
theorem tt_ok : TabOk Try.prog TT := by
  intro x hx
  simp only [TT, List.mem_cons, List.not_mem_nil, or_false] at hx
  rcases hx with rfl | rfl | rfl | rfl | rfl | rfl | rfl | rfl | rfl | rfl | rfl | rfl | rfl | rfl | rfl
  · exact tok2
  · exact tok3
  · exact tok4
  · exact tok5
  · exact tok9
  · exact tok12
  · exact tok21
  · exact tok22
  · exact tok23
  · exact tok26
  · exact tok32
  · exact tok42
  · exact tok43
  · exact tok61
  · exact tok65


end Go.Proofs.Ytfmicjjbbeffjaa
