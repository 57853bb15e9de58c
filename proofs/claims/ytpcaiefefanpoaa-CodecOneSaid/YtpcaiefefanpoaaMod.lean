/-
  Models of the functions of the chapter: what each computes, as a Lean function (none: it is not said). Printed by a program of this claim's own.
-/
import Derived.Test.YtpcaiefefanpoaaEng2
namespace Go.Proofs.Ytpcaiefefanpoaa
open Go.Proofs.Ytpcaiefefanpoaa.Eng
set_option linter.unusedVariables false
set_option linter.unusedSimpArgs false

structure T_codec_Writer where
  b : (List Int)
theorem T_codec_Writer.eta (x : T_codec_Writer) : T_codec_Writer.mk x.b = x := rfl

structure T_codec_left where
  s : (List UInt8)
  e : Int
theorem T_codec_left.eta (x : T_codec_left) : T_codec_left.mk x.s x.e = x := rfl

def c_T_codec_left (x : T_codec_left) : List Value := [.string ⟨x.s.toArray⟩, .int .i64 x.e]
theorem c_T_codec_left_len (x : T_codec_left) : (c_T_codec_left x).length = 2 := rfl

structure T_codec_Reader where
  left : T_codec_left
theorem T_codec_Reader.eta (x : T_codec_Reader) : T_codec_Reader.mk x.left = x := rfl

def c_T_codec_Reader (x : T_codec_Reader) : List Value := [.string ⟨x.left.s.toArray⟩, .int .i64 x.left.e]
theorem c_T_codec_Reader_len (x : T_codec_Reader) : (c_T_codec_Reader x).length = 2 := rfl

def m_codec_put_uint8_L9 (F : Nat) (p1 : Int) (p2 : Int) : Nat → Int → (List Int) → Option ((List Int))
  | 0, _, _ => none
  | n + 1, j10_10, j10_p0_f0 =>
      (cond (decide (j10_10 < p2)) (Option.bind (shrI .u64 (IntKind.wrap .u64 p1) (IntKind.wrap .i64 ((8 : Int) * j10_10))) fun v22 => (Option.bind
        (appI j10_p0_f0 ([(IntKind.wrap .u8 v22)] : List Int)) fun v25 => m_codec_put_uint8_L9 F p1 p2 n (IntKind.wrap .i64 (j10_10 + (1 : Int)))
        v25)) (some j10_p0_f0))

def m_codec_put_uint8 (F : Nat) (p0 : T_codec_Writer) (p1 : Int) (p2 : Int) : Option (T_codec_Writer) :=
  (Option.bind (m_codec_put_uint8_L9 F p1 p2 F (0 : Int) p0.b) fun l10_p0_f0 => some (T_codec_Writer.mk l10_p0_f0))

def m_codec_Writer_U8 (F : Nat) (p0 : T_codec_Writer) (p1 : Int) : Option (T_codec_Writer) :=
  (Option.bind (m_codec_put_uint8 F p0 p1 (1 : Int)) fun o6_0 => some o6_0)

def m_codec_put_uint16_L9 (F : Nat) (p1 : Int) (p2 : Int) : Nat → Int → (List Int) → Option ((List Int))
  | 0, _, _ => none
  | n + 1, j10_10, j10_p0_f0 =>
      (cond (decide (j10_10 < p2)) (Option.bind (shrI .u64 (IntKind.wrap .u64 p1) (IntKind.wrap .i64 ((8 : Int) * j10_10))) fun v22 => (Option.bind
        (appI j10_p0_f0 ([(IntKind.wrap .u8 v22)] : List Int)) fun v25 => m_codec_put_uint16_L9 F p1 p2 n (IntKind.wrap .i64 (j10_10 + (1 : Int)))
        v25)) (some j10_p0_f0))

def m_codec_put_uint16 (F : Nat) (p0 : T_codec_Writer) (p1 : Int) (p2 : Int) : Option (T_codec_Writer) :=
  (Option.bind (m_codec_put_uint16_L9 F p1 p2 F (0 : Int) p0.b) fun l10_p0_f0 => some (T_codec_Writer.mk l10_p0_f0))

def m_codec_Writer_U16 (F : Nat) (p0 : T_codec_Writer) (p1 : Int) : Option (T_codec_Writer) :=
  (Option.bind (m_codec_put_uint16 F p0 p1 (2 : Int)) fun o6_0 => some o6_0)

def m_codec_put_uint32_L9 (F : Nat) (p1 : Int) (p2 : Int) : Nat → Int → (List Int) → Option ((List Int))
  | 0, _, _ => none
  | n + 1, j10_10, j10_p0_f0 =>
      (cond (decide (j10_10 < p2)) (Option.bind (shrI .u64 (IntKind.wrap .u64 p1) (IntKind.wrap .i64 ((8 : Int) * j10_10))) fun v22 => (Option.bind
        (appI j10_p0_f0 ([(IntKind.wrap .u8 v22)] : List Int)) fun v25 => m_codec_put_uint32_L9 F p1 p2 n (IntKind.wrap .i64 (j10_10 + (1 : Int)))
        v25)) (some j10_p0_f0))

def m_codec_put_uint32 (F : Nat) (p0 : T_codec_Writer) (p1 : Int) (p2 : Int) : Option (T_codec_Writer) :=
  (Option.bind (m_codec_put_uint32_L9 F p1 p2 F (0 : Int) p0.b) fun l10_p0_f0 => some (T_codec_Writer.mk l10_p0_f0))

def m_codec_Writer_U32 (F : Nat) (p0 : T_codec_Writer) (p1 : Int) : Option (T_codec_Writer) :=
  (Option.bind (m_codec_put_uint32 F p0 p1 (4 : Int)) fun o6_0 => some o6_0)

def m_codec_Writer_I32 (F : Nat) (p0 : T_codec_Writer) (p1 : Int) : Option (T_codec_Writer) :=
  (Option.bind (m_codec_put_uint32 F p0 (IntKind.wrap .u32 p1) (4 : Int)) fun o7_0 => some o7_0)

def m_codec_Writer_Bytes (F : Nat) (p0 : T_codec_Writer) : Option ((List UInt8)) :=
  some (toB p0.b)

def m_codec_Writer_Var_L2 (F : Nat) : Nat → Int → (List Int) → Option (Int × (List Int))
  | 0, _, _ => none
  | n + 1, j3_1, j3_p0_f0 =>
      (cond (decide ((127 : Int) < j3_1)) (Option.bind (m_codec_Writer_U8 F (T_codec_Writer.mk j3_p0_f0) (bits .or .u8 (IntKind.wrap .u8 j3_1) (128 :
        Int))) fun o10_0 => m_codec_Writer_Var_L2 F n (j3_1 / 2 ^ (min 7 (IntKind.bits .u64))) o10_0.b) (some (j3_1, j3_p0_f0)))

def m_codec_Writer_Var (F : Nat) (p0 : T_codec_Writer) (p1 : Int) : Option (T_codec_Writer) :=
  (Option.bind (m_codec_Writer_Var_L2 F F p1 p0.b) fun (l3_1, l3_p0_f0) => (Option.bind (m_codec_Writer_U8 F (T_codec_Writer.mk l3_p0_f0)
    (IntKind.wrap .u8 l3_1)) fun o16_0 => some o16_0))

def m_hindcastlaw02_vars (F : Nat) (p0 : Int) : Option ((List UInt8)) :=
  (Option.bind (m_codec_Writer_Var F (T_codec_Writer.mk ([] : List Int)) p0) fun o8_0 => (Option.bind (m_codec_Writer_Bytes F o8_0) fun v10 => some
    v10))

def m_codec_New (F : Nat) (p0 : (List UInt8)) : Option (T_codec_Reader) :=
  some (T_codec_Reader.mk (T_codec_left.mk p0 (0 : Int)))

def m_codec_left_fail (F : Nat) (p0 : T_codec_left) (p1 : Int) : Option (T_codec_left) :=
  (cond (p0.e == (0 : Int)) (some (T_codec_left.mk ([] : List UInt8) p1)) (some p0))

def m_codec_left_take (F : Nat) (p0 : T_codec_left) (p1 : Int) : Option (T_codec_left × (List UInt8) × Bool) :=
  (cond (p0.e != (0 : Int)) (some (p0, ([] : List UInt8), false)) (cond (decide ((IntKind.wrap .u64 (p0.s.length : Int)) < p1)) (Option.bind
    (m_codec_left_fail F p0 (10 : Int)) fun o21_0 => some (o21_0, ([] : List UInt8), false)) (Option.bind (cutI p0.s 0 p1) fun v27 => (Option.bind
    (cutI p0.s p1 (p0.s.length : Int)) fun v34 => some ((T_codec_left.mk v34 p0.e), v27, true)))))

def m_codec_Reader_Var_L14 (F : Nat) : Nat → Int → Int → T_codec_Reader → Option ((Int × T_codec_Reader) ⊕ (T_codec_Reader × Int))
  | 0, _, _, _ => none
  | n + 1, j15_2, j15_9, j15_p0 =>
      (cond (decide (j15_9 < (10 : Int))) (Option.bind (m_codec_left_take F j15_p0.left (1 : Int)) fun (o16_0, v16_0, v16_1) => (cond (!v16_1) (some
        (.inr ((T_codec_Reader.mk o16_0), (0 : Int)))) (Option.bind (getI v16_0 (0 : Int)) fun v22 => (Option.bind (cond (j15_9 == (9 : Int)) (some
        ((decide ((1 : Int) < (v22.toNat : Int))))) (some (false))) fun v29 => (cond v29 (Option.bind (m_codec_left_fail F o16_0 (3 : Int)) fun o33_0
        => some (.inr ((T_codec_Reader.mk o33_0), (0 : Int)))) (Option.bind (cond ((v22.toNat : Int) == (0 : Int)) (some ((decide ((0 : Int) <
        j15_9)))) (some (false))) fun v40 => (cond v40 (Option.bind (m_codec_left_fail F o16_0 (4 : Int)) fun o44_0 => some (.inr ((T_codec_Reader.mk
        o44_0), (0 : Int)))) (Option.bind (shlI .u64 (IntKind.wrap .u64 (bits .and .u8 (v22.toNat : Int) (127 : Int))) (IntKind.wrap .i64 ((7 : Int) *
        j15_9))) fun v51 => (cond (decide ((v22.toNat : Int) < (128 : Int))) (some (.inr ((T_codec_Reader.mk o16_0), (bits .or .u64 j15_2 v51))))
        (m_codec_Reader_Var_L14 F n (bits .or .u64 j15_2 v51) (IntKind.wrap .i64 (j15_9 + (1 : Int))) (T_codec_Reader.mk o16_0))))))))))) (some (.inl
        (j15_2, j15_p0))))

def m_codec_Reader_Var (F : Nat) (p0 : T_codec_Reader) : Option (T_codec_Reader × Int) :=
  (Option.bind (m_codec_Reader_Var_L14 F F (0 : Int) (0 : Int) p0) (orE (fun (l15_2, l15_p0) => some (l15_p0, l15_2)) (fun r15 => some r15)))

def m_codec_Reader_Err (F : Nat) (p0 : T_codec_Reader) : Option (Int) :=
  some p0.left.e

def m_codec_Reader_Rest (F : Nat) (p0 : T_codec_Reader) : Option ((List UInt8)) :=
  some p0.left.s

def m_hindcastlaw02_reads (F : Nat) (p0 : (List UInt8)) (p1 : Int) (p2 : Int) : Option (Bool) :=
  (Option.bind (m_codec_New F p0) fun v10 => (Option.bind (m_codec_Reader_Var F v10) fun (o14_0, v14) => (Option.bind (cond (v14 == p1) ((Option.bind
    (m_codec_Reader_Err F o14_0) fun v20 => some ((v20 == p2)))) (some (false))) fun v23 => (Option.bind (cond v23 ((Option.bind (m_codec_Reader_Rest
    F o14_0) fun v26 => some ((v26 == ([] : List UInt8))))) (some (false))) fun v28 => some v28))))

def m_hindcastlaw02_works (F : Nat) : Option (Bool) :=
  (Option.bind (m_codec_Writer_U8 F (T_codec_Writer.mk ([] : List Int)) (1 : Int)) fun o5_0 => (Option.bind (m_codec_Writer_U16 F o5_0 (258 : Int))
    fun o7_0 => (Option.bind (m_codec_Writer_U32 F o7_0 (1 : Int)) fun o9_0 => (Option.bind (m_codec_Writer_I32 F o9_0 (-2 : Int)) fun o11_0 =>
    (Option.bind (m_codec_Writer_Bytes F o11_0) fun v13 => (Option.bind (cond (v13 == ([1, 2, 1, 1, 0, 0, 0, 254, 255, 255, 255] : List UInt8))
    ((Option.bind (m_hindcastlaw02_vars F (300 : Int)) fun v16 => some ((v16 == ([172, 2] : List UInt8))))) (some (false))) fun v18 => (Option.bind
    (cond v18 ((Option.bind (m_hindcastlaw02_reads F ([172, 2] : List UInt8) (300 : Int) (0 : Int)) fun v20 => some (v20))) (some (false))) fun v21 =>
    (Option.bind (cond v21 ((Option.bind (m_hindcastlaw02_reads F ([128, 0] : List UInt8) (0 : Int) (4 : Int)) fun v23 => some (v23))) (some (false)))
    fun v24 => some v24))))))))

def m_codec_get_uint8_L16 (F : Nat) (v16_0 : (List UInt8)) : Nat → Int → Int → Option (Int)
  | 0, _, _ => none
  | n + 1, j17_4, j17_21 =>
      (cond (decide (j17_21 < (v16_0.length : Int))) (Option.bind (getI v16_0 j17_21) fun v27 => (Option.bind (shlI .u64 (IntKind.wrap .u64 (v27.toNat
        : Int)) (IntKind.wrap .i64 ((8 : Int) * j17_21))) fun v31 => m_codec_get_uint8_L16 F v16_0 n (bits .or .u8 j17_4 (IntKind.wrap .u8 v31))
        (IntKind.wrap .i64 (j17_21 + (1 : Int))))) (some j17_4))

def m_codec_get_uint8 (F : Nat) (p0 : T_codec_Reader) (p1 : Int) : Option (T_codec_Reader × Int) :=
  (Option.bind (m_codec_left_take F p0.left (IntKind.wrap .u64 p1)) fun (o16_0, v16_0, v16_1) => (Option.bind (m_codec_get_uint8_L16 F v16_0 F (0 :
    Int) (0 : Int)) fun l17_4 => some ((T_codec_Reader.mk o16_0), l17_4)))

def m_codec_Reader_U8 (F : Nat) (p0 : T_codec_Reader) : Option (T_codec_Reader × Int) :=
  (Option.bind (m_codec_get_uint8 F p0 (1 : Int)) fun (o4_0, v4) => some (o4_0, v4))

def m_codec_get_uint16_L16 (F : Nat) (v16_0 : (List UInt8)) : Nat → Int → Int → Option (Int)
  | 0, _, _ => none
  | n + 1, j17_4, j17_21 =>
      (cond (decide (j17_21 < (v16_0.length : Int))) (Option.bind (getI v16_0 j17_21) fun v27 => (Option.bind (shlI .u64 (IntKind.wrap .u64 (v27.toNat
        : Int)) (IntKind.wrap .i64 ((8 : Int) * j17_21))) fun v31 => m_codec_get_uint16_L16 F v16_0 n (bits .or .u16 j17_4 (IntKind.wrap .u16 v31))
        (IntKind.wrap .i64 (j17_21 + (1 : Int))))) (some j17_4))

def m_codec_get_uint16 (F : Nat) (p0 : T_codec_Reader) (p1 : Int) : Option (T_codec_Reader × Int) :=
  (Option.bind (m_codec_left_take F p0.left (IntKind.wrap .u64 p1)) fun (o16_0, v16_0, v16_1) => (Option.bind (m_codec_get_uint16_L16 F v16_0 F (0 :
    Int) (0 : Int)) fun l17_4 => some ((T_codec_Reader.mk o16_0), l17_4)))

def m_codec_Reader_U16 (F : Nat) (p0 : T_codec_Reader) : Option (T_codec_Reader × Int) :=
  (Option.bind (m_codec_get_uint16 F p0 (2 : Int)) fun (o4_0, v4) => some (o4_0, v4))

def m_codec_get_uint32_L16 (F : Nat) (v16_0 : (List UInt8)) : Nat → Int → Int → Option (Int)
  | 0, _, _ => none
  | n + 1, j17_4, j17_21 =>
      (cond (decide (j17_21 < (v16_0.length : Int))) (Option.bind (getI v16_0 j17_21) fun v27 => (Option.bind (shlI .u64 (IntKind.wrap .u64 (v27.toNat
        : Int)) (IntKind.wrap .i64 ((8 : Int) * j17_21))) fun v31 => m_codec_get_uint32_L16 F v16_0 n (bits .or .u32 j17_4 (IntKind.wrap .u32 v31))
        (IntKind.wrap .i64 (j17_21 + (1 : Int))))) (some j17_4))

def m_codec_get_uint32 (F : Nat) (p0 : T_codec_Reader) (p1 : Int) : Option (T_codec_Reader × Int) :=
  (Option.bind (m_codec_left_take F p0.left (IntKind.wrap .u64 p1)) fun (o16_0, v16_0, v16_1) => (Option.bind (m_codec_get_uint32_L16 F v16_0 F (0 :
    Int) (0 : Int)) fun l17_4 => some ((T_codec_Reader.mk o16_0), l17_4)))

def m_codec_Reader_U32 (F : Nat) (p0 : T_codec_Reader) : Option (T_codec_Reader × Int) :=
  (Option.bind (m_codec_get_uint32 F p0 (4 : Int)) fun (o4_0, v4) => some (o4_0, v4))

def m_codec_get_uint64_L16 (F : Nat) (v16_0 : (List UInt8)) : Nat → Int → Int → Option (Int)
  | 0, _, _ => none
  | n + 1, j17_4, j17_21 =>
      (cond (decide (j17_21 < (v16_0.length : Int))) (Option.bind (getI v16_0 j17_21) fun v27 => (Option.bind (shlI .u64 (IntKind.wrap .u64 (v27.toNat
        : Int)) (IntKind.wrap .i64 ((8 : Int) * j17_21))) fun v31 => m_codec_get_uint64_L16 F v16_0 n (bits .or .u64 j17_4 v31) (IntKind.wrap .i64
        (j17_21 + (1 : Int))))) (some j17_4))

def m_codec_get_uint64 (F : Nat) (p0 : T_codec_Reader) (p1 : Int) : Option (T_codec_Reader × Int) :=
  (Option.bind (m_codec_left_take F p0.left (IntKind.wrap .u64 p1)) fun (o16_0, v16_0, v16_1) => (Option.bind (m_codec_get_uint64_L16 F v16_0 F (0 :
    Int) (0 : Int)) fun l17_4 => some ((T_codec_Reader.mk o16_0), l17_4)))

def m_codec_Reader_U64 (F : Nat) (p0 : T_codec_Reader) : Option (T_codec_Reader × Int) :=
  (Option.bind (m_codec_get_uint64 F p0 (8 : Int)) fun (o4_0, v4) => some (o4_0, v4))

def m_codec_put_uint64_L9 (F : Nat) (p1 : Int) (p2 : Int) : Nat → Int → (List Int) → Option ((List Int))
  | 0, _, _ => none
  | n + 1, j10_10, j10_p0_f0 =>
      (cond (decide (j10_10 < p2)) (Option.bind (shrI .u64 p1 (IntKind.wrap .i64 ((8 : Int) * j10_10))) fun v21 => (Option.bind (appI j10_p0_f0
        ([(IntKind.wrap .u8 v21)] : List Int)) fun v24 => m_codec_put_uint64_L9 F p1 p2 n (IntKind.wrap .i64 (j10_10 + (1 : Int))) v24)) (some
        j10_p0_f0))

def m_codec_put_uint64 (F : Nat) (p0 : T_codec_Writer) (p1 : Int) (p2 : Int) : Option (T_codec_Writer) :=
  (Option.bind (m_codec_put_uint64_L9 F p1 p2 F (0 : Int) p0.b) fun l10_p0_f0 => some (T_codec_Writer.mk l10_p0_f0))

def m_codec_Writer_U64 (F : Nat) (p0 : T_codec_Writer) (p1 : Int) : Option (T_codec_Writer) :=
  (Option.bind (m_codec_put_uint64 F p0 p1 (8 : Int)) fun o6_0 => some o6_0)

def m_codec_Reader_I32 (F : Nat) (p0 : T_codec_Reader) : Option (T_codec_Reader × Int) :=
  (Option.bind (m_codec_get_uint32 F p0 (4 : Int)) fun (o4_0, v4) => some (o4_0, (IntKind.wrap .i32 v4)))

def m_codec_Reader_Text (F : Nat) (p0 : T_codec_Reader) : Option (T_codec_Reader × (List UInt8)) :=
  (Option.bind (m_codec_Reader_Var F p0) fun (o7_0, v7) => (cond (o7_0.left.e != (0 : Int)) (some (o7_0, ([] : List UInt8))) (Option.bind
    (m_codec_left_take F o7_0.left v7) fun (o23_0, v23_0, v23_1) => some ((T_codec_Reader.mk o23_0), v23_0))))

def m_codec_Writer_Text (F : Nat) (p0 : T_codec_Writer) (p1 : (List UInt8)) : Option (T_codec_Writer) :=
  (Option.bind (m_codec_Writer_Var F p0 (IntKind.wrap .u64 (p1.length : Int))) fun o8_0 => (Option.bind (appI o8_0.b (fromB p1)) fun v17 => some
    (T_codec_Writer.mk v17)))

def m_hindcastlaw02_CodecOne_L26 (F : Nat) (p0 : (List UInt8)) (p1 : (List Int)) : Nat → Int → T_codec_Reader → (List Int) → Option ((Bool × T_codec_Reader × (List Int)) ⊕ (Bool))
  | 0, _, _, _ => none
  | n + 1, j27_7, j27_n19_0, j27_n23_f0 =>
      (cond (decide (j27_7 < (p1.length : Int))) (Option.bind (m_codec_Writer_Bytes F (T_codec_Writer.mk j27_n23_f0)) fun v31 => (Option.bind (getI p1
        j27_7) fun v34 => (Option.bind ((cond ((Int.tmod v34 7) == (0 : Int)) (Option.bind (m_codec_Reader_U8 F j27_n19_0) fun (o45_0, v45) =>
        (Option.bind (m_codec_Writer_U8 F (T_codec_Writer.mk j27_n23_f0) v45) fun o46_0 => some (o45_0, o46_0.b))) (cond ((Int.tmod v34 7) == (1 :
        Int)) (Option.bind (m_codec_Reader_U16 F j27_n19_0) fun (o51_0, v51) => (Option.bind (m_codec_Writer_U16 F (T_codec_Writer.mk j27_n23_f0) v51)
        fun o52_0 => some (o51_0, o52_0.b))) (cond ((Int.tmod v34 7) == (2 : Int)) (Option.bind (m_codec_Reader_U32 F j27_n19_0) fun (o57_0, v57) =>
        (Option.bind (m_codec_Writer_U32 F (T_codec_Writer.mk j27_n23_f0) v57) fun o58_0 => some (o57_0, o58_0.b))) (cond ((Int.tmod v34 7) == (3 :
        Int)) (Option.bind (m_codec_Reader_U64 F j27_n19_0) fun (o63_0, v63) => (Option.bind (m_codec_Writer_U64 F (T_codec_Writer.mk j27_n23_f0) v63)
        fun o64_0 => some (o63_0, o64_0.b))) (cond ((Int.tmod v34 7) == (4 : Int)) (Option.bind (m_codec_Reader_I32 F j27_n19_0) fun (o69_0, v69) =>
        (Option.bind (m_codec_Writer_I32 F (T_codec_Writer.mk j27_n23_f0) v69) fun o70_0 => some (o69_0, o70_0.b))) (cond ((Int.tmod v34 7) == (5 :
        Int)) (Option.bind (m_codec_Reader_Var F j27_n19_0) fun (o75_0, v75) => (Option.bind (m_codec_Writer_Var F (T_codec_Writer.mk j27_n23_f0) v75)
        fun o76_0 => some (o75_0, o76_0.b))) (Option.bind (m_codec_Reader_Text F j27_n19_0) fun (o39_0, v39) => (Option.bind (m_codec_Writer_Text F
        (T_codec_Writer.mk j27_n23_f0) v39) fun o40_0 => some (o39_0, o40_0.b)))))))))) fun (j41_n19_0, j41_n23_f0) => (Option.bind
        (m_codec_Reader_Err F j41_n19_0) fun v78 => (cond (v78 != (0 : Int)) (Option.bind (cond (decide ((v31.length : Int) ≤ (p0.length : Int)))
        ((Option.bind (cutI p0 0 (v31.length : Int)) fun v90 => some ((v31 == v90)))) (some (false))) fun v92 => (Option.bind (cond v92 ((Option.bind
        (m_hindcastlaw02_works F) fun v94 => some (v94))) (some (false))) fun v95 => some (.inr v95))) (m_hindcastlaw02_CodecOne_L26 F p0 p1 n
        (IntKind.wrap .i64 (j27_7 + (1 : Int))) j41_n19_0 j41_n23_f0)))))) (some (.inl (false, j27_n19_0, j27_n23_f0))))

def m_hindcastlaw02_CodecOne (F : Nat) (p0 : (List UInt8)) (p1 : (List Int)) : Option (Bool) :=
  (Option.bind (cond (decide ((1000 : Int) < (p0.length : Int))) (some (true)) (some ((decide ((60 : Int) < (p1.length : Int)))))) fun v16 => (cond
    v16 (Option.bind (m_hindcastlaw02_works F) fun v17 => some v17) (Option.bind (m_codec_New F p0) fun v19 => (Option.bind
    (m_hindcastlaw02_CodecOne_L26 F p0 p1 F (0 : Int) v19 ([] : List Int)) (orE (fun (l27_4, l27_n19_0, l27_n23_f0) => (Option.bind
    (m_codec_Writer_Bytes F (T_codec_Writer.mk l27_n23_f0)) fun v97 => (Option.bind (m_codec_Reader_Rest F l27_n19_0) fun v99 => (Option.bind (appI
    v97 v99) fun v100 => (Option.bind (cond (v100 == p0) ((Option.bind (m_hindcastlaw02_works F) fun v104 => some (v104))) (some (false))) fun v105 =>
    some v105))))) (fun r27 => some r27))))))

end Go.Proofs.Ytpcaiefefanpoaa
