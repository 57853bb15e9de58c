/-
  Models of the functions of the chapter: what each computes, as a Lean function (none: it is not said). Printed by a program of this claim's own.
-/
import Derived.Test.YtpcaiefefanpoaaEng2
namespace Go.Proofs.Ytpcaiefefanpoaa
open Go.Proofs.Ytpcaiefefanpoaa.Eng
set_option linter.unusedVariables false
set_option linter.unusedSimpArgs false

structure T_hindcastlaw02_Item where
  Kind : Int
  N : Int
  S : (List UInt8)
theorem T_hindcastlaw02_Item.eta (x : T_hindcastlaw02_Item) : T_hindcastlaw02_Item.mk x.Kind x.N x.S = x := rfl

def c_T_hindcastlaw02_Item (x : T_hindcastlaw02_Item) : List Value := [.int .u8 x.Kind, .int .u64 x.N, .string ⟨x.S.toArray⟩]
theorem c_T_hindcastlaw02_Item_len (x : T_hindcastlaw02_Item) : (c_T_hindcastlaw02_Item x).length = 3 := rfl

structure T_codec_Writer where
  b : (List Int)
theorem T_codec_Writer.eta (x : T_codec_Writer) : T_codec_Writer.mk x.b = x := rfl

structure T_codec_left where
  s : (List UInt8)
  e : Int
theorem T_codec_left.eta (x : T_codec_left) : T_codec_left.mk x.s x.e = x := rfl

def c_T_codec_left (x : T_codec_left) : List Value := [.string ⟨x.s.toArray⟩, .int .i64 x.e]
theorem c_T_codec_left_len (x : T_codec_left) : (c_T_codec_left x).length = 2 := rfl

structure T_codec_Reader where
  left : T_codec_left
theorem T_codec_Reader.eta (x : T_codec_Reader) : T_codec_Reader.mk x.left = x := rfl

def c_T_codec_Reader (x : T_codec_Reader) : List Value := [.string ⟨x.left.s.toArray⟩, .int .i64 x.left.e]
theorem c_T_codec_Reader_len (x : T_codec_Reader) : (c_T_codec_Reader x).length = 2 := rfl

def m_hindcastlaw02_few_L6 (F : Nat) (p0 : (List T_hindcastlaw02_Item)) : Nat → Int → Option ((Bool) ⊕ (Bool))
  | 0, _ => none
  | n + 1, j7_3 =>
      (Option.bind (cond (decide (j7_3 < (p0.length : Int))) (some ((decide (j7_3 < (80 : Int))))) (some (false))) fun v11 => (cond v11 (Option.bind
        (getI p0 j7_3) fun v16 => (cond (decide ((300 : Int) < (v16.S.length : Int))) (some (.inr false)) (m_hindcastlaw02_few_L6 F p0 n (IntKind.wrap
        .i64 (j7_3 + (1 : Int)))))) (some (.inl false))))

def m_hindcastlaw02_few (F : Nat) (p0 : (List T_hindcastlaw02_Item)) : Option (Bool) :=
  (Option.bind (m_hindcastlaw02_few_L6 F p0 F (0 : Int)) (orE (fun l7_2 => some (decide ((p0.length : Int) ≤ (60 : Int)))) (fun r7 => some r7)))

def m_codec_put_uint8_L9 (F : Nat) (p1 : Int) (p2 : Int) : Nat → Int → (List Int) → Option ((List Int))
  | 0, _, _ => none
  | n + 1, j10_10, j10_p0_f0 =>
      (cond (decide (j10_10 < p2)) (Option.bind (shrI .u64 (IntKind.wrap .u64 p1) (IntKind.wrap .i64 ((8 : Int) * j10_10))) fun v22 => (Option.bind
        (appI j10_p0_f0 ([(IntKind.wrap .u8 v22)] : List Int)) fun v25 => m_codec_put_uint8_L9 F p1 p2 n (IntKind.wrap .i64 (j10_10 + (1 : Int)))
        v25)) (some j10_p0_f0))

def m_codec_put_uint8 (F : Nat) (p0 : T_codec_Writer) (p1 : Int) (p2 : Int) : Option (T_codec_Writer) :=
  (Option.bind (m_codec_put_uint8_L9 F p1 p2 F (0 : Int) p0.b) fun l10_p0_f0 => some (T_codec_Writer.mk l10_p0_f0))

def m_codec_Writer_U8 (F : Nat) (p0 : T_codec_Writer) (p1 : Int) : Option (T_codec_Writer) :=
  (Option.bind (m_codec_put_uint8 F p0 p1 (1 : Int)) fun o6_0 => some o6_0)

def m_codec_put_uint16_L9 (F : Nat) (p1 : Int) (p2 : Int) : Nat → Int → (List Int) → Option ((List Int))
  | 0, _, _ => none
  | n + 1, j10_10, j10_p0_f0 =>
      (cond (decide (j10_10 < p2)) (Option.bind (shrI .u64 (IntKind.wrap .u64 p1) (IntKind.wrap .i64 ((8 : Int) * j10_10))) fun v22 => (Option.bind
        (appI j10_p0_f0 ([(IntKind.wrap .u8 v22)] : List Int)) fun v25 => m_codec_put_uint16_L9 F p1 p2 n (IntKind.wrap .i64 (j10_10 + (1 : Int)))
        v25)) (some j10_p0_f0))

def m_codec_put_uint16 (F : Nat) (p0 : T_codec_Writer) (p1 : Int) (p2 : Int) : Option (T_codec_Writer) :=
  (Option.bind (m_codec_put_uint16_L9 F p1 p2 F (0 : Int) p0.b) fun l10_p0_f0 => some (T_codec_Writer.mk l10_p0_f0))

def m_codec_Writer_U16 (F : Nat) (p0 : T_codec_Writer) (p1 : Int) : Option (T_codec_Writer) :=
  (Option.bind (m_codec_put_uint16 F p0 p1 (2 : Int)) fun o6_0 => some o6_0)

def m_codec_put_uint32_L9 (F : Nat) (p1 : Int) (p2 : Int) : Nat → Int → (List Int) → Option ((List Int))
  | 0, _, _ => none
  | n + 1, j10_10, j10_p0_f0 =>
      (cond (decide (j10_10 < p2)) (Option.bind (shrI .u64 (IntKind.wrap .u64 p1) (IntKind.wrap .i64 ((8 : Int) * j10_10))) fun v22 => (Option.bind
        (appI j10_p0_f0 ([(IntKind.wrap .u8 v22)] : List Int)) fun v25 => m_codec_put_uint32_L9 F p1 p2 n (IntKind.wrap .i64 (j10_10 + (1 : Int)))
        v25)) (some j10_p0_f0))

def m_codec_put_uint32 (F : Nat) (p0 : T_codec_Writer) (p1 : Int) (p2 : Int) : Option (T_codec_Writer) :=
  (Option.bind (m_codec_put_uint32_L9 F p1 p2 F (0 : Int) p0.b) fun l10_p0_f0 => some (T_codec_Writer.mk l10_p0_f0))

def m_codec_Writer_U32 (F : Nat) (p0 : T_codec_Writer) (p1 : Int) : Option (T_codec_Writer) :=
  (Option.bind (m_codec_put_uint32 F p0 p1 (4 : Int)) fun o6_0 => some o6_0)

def m_codec_Writer_I32 (F : Nat) (p0 : T_codec_Writer) (p1 : Int) : Option (T_codec_Writer) :=
  (Option.bind (m_codec_put_uint32 F p0 (IntKind.wrap .u32 p1) (4 : Int)) fun o7_0 => some o7_0)

def m_codec_Writer_Bytes (F : Nat) (p0 : T_codec_Writer) : Option ((List UInt8)) :=
  some (toB p0.b)

def m_codec_Writer_Var_L2 (F : Nat) : Nat → Int → (List Int) → Option (Int × (List Int))
  | 0, _, _ => none
  | n + 1, j3_1, j3_p0_f0 =>
      (cond (decide ((127 : Int) < j3_1)) (Option.bind (m_codec_Writer_U8 F (T_codec_Writer.mk j3_p0_f0) (bits .or .u8 (IntKind.wrap .u8 j3_1) (128 :
        Int))) fun o10_0 => m_codec_Writer_Var_L2 F n (j3_1 / 2 ^ (min 7 (IntKind.bits .u64))) o10_0.b) (some (j3_1, j3_p0_f0)))

def m_codec_Writer_Var (F : Nat) (p0 : T_codec_Writer) (p1 : Int) : Option (T_codec_Writer) :=
  (Option.bind (m_codec_Writer_Var_L2 F F p1 p0.b) fun (l3_1, l3_p0_f0) => (Option.bind (m_codec_Writer_U8 F (T_codec_Writer.mk l3_p0_f0)
    (IntKind.wrap .u8 l3_1)) fun o16_0 => some o16_0))

def m_hindcastlaw02_vars (F : Nat) (p0 : Int) : Option ((List UInt8)) :=
  (Option.bind (m_codec_Writer_Var F (T_codec_Writer.mk ([] : List Int)) p0) fun o8_0 => (Option.bind (m_codec_Writer_Bytes F o8_0) fun v10 => some
    v10))

def m_codec_New (F : Nat) (p0 : (List UInt8)) : Option (T_codec_Reader) :=
  some (T_codec_Reader.mk (T_codec_left.mk p0 (0 : Int)))

def m_codec_left_fail (F : Nat) (p0 : T_codec_left) (p1 : Int) : Option (T_codec_left) :=
  (cond (p0.e == (0 : Int)) (some (T_codec_left.mk ([] : List UInt8) p1)) (some p0))

def m_codec_left_take (F : Nat) (p0 : T_codec_left) (p1 : Int) : Option (T_codec_left × (List UInt8) × Bool) :=
  (cond (p0.e != (0 : Int)) (some (p0, ([] : List UInt8), false)) (cond (decide ((IntKind.wrap .u64 (p0.s.length : Int)) < p1)) (Option.bind
    (m_codec_left_fail F p0 (10 : Int)) fun o21_0 => some (o21_0, ([] : List UInt8), false)) (Option.bind (cutI p0.s 0 p1) fun v27 => (Option.bind
    (cutI p0.s p1 (p0.s.length : Int)) fun v34 => some ((T_codec_left.mk v34 p0.e), v27, true)))))

def m_codec_Reader_Var_L14 (F : Nat) : Nat → Int → Int → T_codec_Reader → Option ((Int × T_codec_Reader) ⊕ (T_codec_Reader × Int))
  | 0, _, _, _ => none
  | n + 1, j15_2, j15_9, j15_p0 =>
      (cond (decide (j15_9 < (10 : Int))) (Option.bind (m_codec_left_take F j15_p0.left (1 : Int)) fun (o16_0, v16_0, v16_1) => (cond (!v16_1) (some
        (.inr ((T_codec_Reader.mk o16_0), (0 : Int)))) (Option.bind (getI v16_0 (0 : Int)) fun v22 => (Option.bind (cond (j15_9 == (9 : Int)) (some
        ((decide ((1 : Int) < (v22.toNat : Int))))) (some (false))) fun v29 => (cond v29 (Option.bind (m_codec_left_fail F o16_0 (3 : Int)) fun o33_0
        => some (.inr ((T_codec_Reader.mk o33_0), (0 : Int)))) (Option.bind (cond ((v22.toNat : Int) == (0 : Int)) (some ((decide ((0 : Int) <
        j15_9)))) (some (false))) fun v40 => (cond v40 (Option.bind (m_codec_left_fail F o16_0 (4 : Int)) fun o44_0 => some (.inr ((T_codec_Reader.mk
        o44_0), (0 : Int)))) (Option.bind (shlI .u64 (IntKind.wrap .u64 (bits .and .u8 (v22.toNat : Int) (127 : Int))) (IntKind.wrap .i64 ((7 : Int) *
        j15_9))) fun v51 => (cond (decide ((v22.toNat : Int) < (128 : Int))) (some (.inr ((T_codec_Reader.mk o16_0), (bits .or .u64 j15_2 v51))))
        (m_codec_Reader_Var_L14 F n (bits .or .u64 j15_2 v51) (IntKind.wrap .i64 (j15_9 + (1 : Int))) (T_codec_Reader.mk o16_0))))))))))) (some (.inl
        (j15_2, j15_p0))))

def m_codec_Reader_Var (F : Nat) (p0 : T_codec_Reader) : Option (T_codec_Reader × Int) :=
  (Option.bind (m_codec_Reader_Var_L14 F F (0 : Int) (0 : Int) p0) (orE (fun (l15_2, l15_p0) => some (l15_p0, l15_2)) (fun r15 => some r15)))

def m_codec_Reader_Err (F : Nat) (p0 : T_codec_Reader) : Option (Int) :=
  some p0.left.e

def m_codec_Reader_Rest (F : Nat) (p0 : T_codec_Reader) : Option ((List UInt8)) :=
  some p0.left.s

def m_hindcastlaw02_reads (F : Nat) (p0 : (List UInt8)) (p1 : Int) (p2 : Int) : Option (Bool) :=
  (Option.bind (m_codec_New F p0) fun v10 => (Option.bind (m_codec_Reader_Var F v10) fun (o14_0, v14) => (Option.bind (cond (v14 == p1) ((Option.bind
    (m_codec_Reader_Err F o14_0) fun v20 => some ((v20 == p2)))) (some (false))) fun v23 => (Option.bind (cond v23 ((Option.bind (m_codec_Reader_Rest
    F o14_0) fun v26 => some ((v26 == ([] : List UInt8))))) (some (false))) fun v28 => some v28))))

def m_hindcastlaw02_works (F : Nat) : Option (Bool) :=
  (Option.bind (m_codec_Writer_U8 F (T_codec_Writer.mk ([] : List Int)) (1 : Int)) fun o5_0 => (Option.bind (m_codec_Writer_U16 F o5_0 (258 : Int))
    fun o7_0 => (Option.bind (m_codec_Writer_U32 F o7_0 (1 : Int)) fun o9_0 => (Option.bind (m_codec_Writer_I32 F o9_0 (-2 : Int)) fun o11_0 =>
    (Option.bind (m_codec_Writer_Bytes F o11_0) fun v13 => (Option.bind (cond (v13 == ([1, 2, 1, 1, 0, 0, 0, 254, 255, 255, 255] : List UInt8))
    ((Option.bind (m_hindcastlaw02_vars F (300 : Int)) fun v16 => some ((v16 == ([172, 2] : List UInt8))))) (some (false))) fun v18 => (Option.bind
    (cond v18 ((Option.bind (m_hindcastlaw02_reads F ([172, 2] : List UInt8) (300 : Int) (0 : Int)) fun v20 => some (v20))) (some (false))) fun v21 =>
    (Option.bind (cond v21 ((Option.bind (m_hindcastlaw02_reads F ([128, 0] : List UInt8) (0 : Int) (4 : Int)) fun v23 => some (v23))) (some (false)))
    fun v24 => some v24))))))))

def m_codec_put_uint64_L9 (F : Nat) (p1 : Int) (p2 : Int) : Nat → Int → (List Int) → Option ((List Int))
  | 0, _, _ => none
  | n + 1, j10_10, j10_p0_f0 =>
      (cond (decide (j10_10 < p2)) (Option.bind (shrI .u64 p1 (IntKind.wrap .i64 ((8 : Int) * j10_10))) fun v21 => (Option.bind (appI j10_p0_f0
        ([(IntKind.wrap .u8 v21)] : List Int)) fun v24 => m_codec_put_uint64_L9 F p1 p2 n (IntKind.wrap .i64 (j10_10 + (1 : Int))) v24)) (some
        j10_p0_f0))

def m_codec_put_uint64 (F : Nat) (p0 : T_codec_Writer) (p1 : Int) (p2 : Int) : Option (T_codec_Writer) :=
  (Option.bind (m_codec_put_uint64_L9 F p1 p2 F (0 : Int) p0.b) fun l10_p0_f0 => some (T_codec_Writer.mk l10_p0_f0))

def m_codec_Writer_U64 (F : Nat) (p0 : T_codec_Writer) (p1 : Int) : Option (T_codec_Writer) :=
  (Option.bind (m_codec_put_uint64 F p0 p1 (8 : Int)) fun o6_0 => some o6_0)

def m_codec_Writer_Text (F : Nat) (p0 : T_codec_Writer) (p1 : (List UInt8)) : Option (T_codec_Writer) :=
  (Option.bind (m_codec_Writer_Var F p0 (IntKind.wrap .u64 (p1.length : Int))) fun o8_0 => (Option.bind (appI o8_0.b (fromB p1)) fun v17 => some
    (T_codec_Writer.mk v17)))

def m_hindcastlaw02_put (F : Nat) (p0 : T_codec_Writer) (p1 : T_hindcastlaw02_Item) : Option (T_codec_Writer) :=
  (cond ((Int.tmod p1.Kind 7) == (0 : Int)) (Option.bind (m_codec_Writer_U8 F p0 (IntKind.wrap .u8 p1.N)) fun o17_0 => some o17_0) (cond ((Int.tmod
    p1.Kind 7) == (1 : Int)) (Option.bind (m_codec_Writer_U16 F p0 (IntKind.wrap .u16 p1.N)) fun o24_0 => some o24_0) (cond ((Int.tmod p1.Kind 7) ==
    (2 : Int)) (Option.bind (m_codec_Writer_U32 F p0 (IntKind.wrap .u32 p1.N)) fun o31_0 => some o31_0) (cond ((Int.tmod p1.Kind 7) == (3 : Int))
    (Option.bind (m_codec_Writer_U64 F p0 p1.N) fun o37_0 => some o37_0) (cond ((Int.tmod p1.Kind 7) == (4 : Int)) (Option.bind (m_codec_Writer_I32 F
    p0 (IntKind.wrap .i32 p1.N)) fun o44_0 => some o44_0) (cond ((Int.tmod p1.Kind 7) == (5 : Int)) (Option.bind (m_codec_Writer_Var F p0 p1.N) fun
    o50_0 => some o50_0) (Option.bind (m_codec_Writer_Text F p0 p1.S) fun o10_0 => some o10_0)))))))

def m_codec_get_uint8_L16 (F : Nat) (v16_0 : (List UInt8)) : Nat → Int → Int → Option (Int)
  | 0, _, _ => none
  | n + 1, j17_4, j17_21 =>
      (cond (decide (j17_21 < (v16_0.length : Int))) (Option.bind (getI v16_0 j17_21) fun v27 => (Option.bind (shlI .u64 (IntKind.wrap .u64 (v27.toNat
        : Int)) (IntKind.wrap .i64 ((8 : Int) * j17_21))) fun v31 => m_codec_get_uint8_L16 F v16_0 n (bits .or .u8 j17_4 (IntKind.wrap .u8 v31))
        (IntKind.wrap .i64 (j17_21 + (1 : Int))))) (some j17_4))

def m_codec_get_uint8 (F : Nat) (p0 : T_codec_Reader) (p1 : Int) : Option (T_codec_Reader × Int) :=
  (Option.bind (m_codec_left_take F p0.left (IntKind.wrap .u64 p1)) fun (o16_0, v16_0, v16_1) => (Option.bind (m_codec_get_uint8_L16 F v16_0 F (0 :
    Int) (0 : Int)) fun l17_4 => some ((T_codec_Reader.mk o16_0), l17_4)))

def m_codec_Reader_U8 (F : Nat) (p0 : T_codec_Reader) : Option (T_codec_Reader × Int) :=
  (Option.bind (m_codec_get_uint8 F p0 (1 : Int)) fun (o4_0, v4) => some (o4_0, v4))

def m_codec_get_uint16_L16 (F : Nat) (v16_0 : (List UInt8)) : Nat → Int → Int → Option (Int)
  | 0, _, _ => none
  | n + 1, j17_4, j17_21 =>
      (cond (decide (j17_21 < (v16_0.length : Int))) (Option.bind (getI v16_0 j17_21) fun v27 => (Option.bind (shlI .u64 (IntKind.wrap .u64 (v27.toNat
        : Int)) (IntKind.wrap .i64 ((8 : Int) * j17_21))) fun v31 => m_codec_get_uint16_L16 F v16_0 n (bits .or .u16 j17_4 (IntKind.wrap .u16 v31))
        (IntKind.wrap .i64 (j17_21 + (1 : Int))))) (some j17_4))

def m_codec_get_uint16 (F : Nat) (p0 : T_codec_Reader) (p1 : Int) : Option (T_codec_Reader × Int) :=
  (Option.bind (m_codec_left_take F p0.left (IntKind.wrap .u64 p1)) fun (o16_0, v16_0, v16_1) => (Option.bind (m_codec_get_uint16_L16 F v16_0 F (0 :
    Int) (0 : Int)) fun l17_4 => some ((T_codec_Reader.mk o16_0), l17_4)))

def m_codec_Reader_U16 (F : Nat) (p0 : T_codec_Reader) : Option (T_codec_Reader × Int) :=
  (Option.bind (m_codec_get_uint16 F p0 (2 : Int)) fun (o4_0, v4) => some (o4_0, v4))

def m_codec_get_uint32_L16 (F : Nat) (v16_0 : (List UInt8)) : Nat → Int → Int → Option (Int)
  | 0, _, _ => none
  | n + 1, j17_4, j17_21 =>
      (cond (decide (j17_21 < (v16_0.length : Int))) (Option.bind (getI v16_0 j17_21) fun v27 => (Option.bind (shlI .u64 (IntKind.wrap .u64 (v27.toNat
        : Int)) (IntKind.wrap .i64 ((8 : Int) * j17_21))) fun v31 => m_codec_get_uint32_L16 F v16_0 n (bits .or .u32 j17_4 (IntKind.wrap .u32 v31))
        (IntKind.wrap .i64 (j17_21 + (1 : Int))))) (some j17_4))

def m_codec_get_uint32 (F : Nat) (p0 : T_codec_Reader) (p1 : Int) : Option (T_codec_Reader × Int) :=
  (Option.bind (m_codec_left_take F p0.left (IntKind.wrap .u64 p1)) fun (o16_0, v16_0, v16_1) => (Option.bind (m_codec_get_uint32_L16 F v16_0 F (0 :
    Int) (0 : Int)) fun l17_4 => some ((T_codec_Reader.mk o16_0), l17_4)))

def m_codec_Reader_U32 (F : Nat) (p0 : T_codec_Reader) : Option (T_codec_Reader × Int) :=
  (Option.bind (m_codec_get_uint32 F p0 (4 : Int)) fun (o4_0, v4) => some (o4_0, v4))

def m_codec_get_uint64_L16 (F : Nat) (v16_0 : (List UInt8)) : Nat → Int → Int → Option (Int)
  | 0, _, _ => none
  | n + 1, j17_4, j17_21 =>
      (cond (decide (j17_21 < (v16_0.length : Int))) (Option.bind (getI v16_0 j17_21) fun v27 => (Option.bind (shlI .u64 (IntKind.wrap .u64 (v27.toNat
        : Int)) (IntKind.wrap .i64 ((8 : Int) * j17_21))) fun v31 => m_codec_get_uint64_L16 F v16_0 n (bits .or .u64 j17_4 v31) (IntKind.wrap .i64
        (j17_21 + (1 : Int))))) (some j17_4))

def m_codec_get_uint64 (F : Nat) (p0 : T_codec_Reader) (p1 : Int) : Option (T_codec_Reader × Int) :=
  (Option.bind (m_codec_left_take F p0.left (IntKind.wrap .u64 p1)) fun (o16_0, v16_0, v16_1) => (Option.bind (m_codec_get_uint64_L16 F v16_0 F (0 :
    Int) (0 : Int)) fun l17_4 => some ((T_codec_Reader.mk o16_0), l17_4)))

def m_codec_Reader_U64 (F : Nat) (p0 : T_codec_Reader) : Option (T_codec_Reader × Int) :=
  (Option.bind (m_codec_get_uint64 F p0 (8 : Int)) fun (o4_0, v4) => some (o4_0, v4))

def m_codec_Reader_I32 (F : Nat) (p0 : T_codec_Reader) : Option (T_codec_Reader × Int) :=
  (Option.bind (m_codec_get_uint32 F p0 (4 : Int)) fun (o4_0, v4) => some (o4_0, (IntKind.wrap .i32 v4)))

def m_codec_Reader_Text (F : Nat) (p0 : T_codec_Reader) : Option (T_codec_Reader × (List UInt8)) :=
  (Option.bind (m_codec_Reader_Var F p0) fun (o7_0, v7) => (cond (o7_0.left.e != (0 : Int)) (some (o7_0, ([] : List UInt8))) (Option.bind
    (m_codec_left_take F o7_0.left v7) fun (o23_0, v23_0, v23_1) => some ((T_codec_Reader.mk o23_0), v23_0))))

def m_hindcastlaw02_get (F : Nat) (p0 : T_codec_Reader) (p1 : T_hindcastlaw02_Item) : Option (T_codec_Reader × Bool) :=
  (cond ((Int.tmod p1.Kind 7) == (0 : Int)) (Option.bind (m_codec_Reader_U8 F p0) fun (o11_0, v11) => some (o11_0, (v11 == (IntKind.wrap .u8 p1.N))))
    (cond ((Int.tmod p1.Kind 7) == (1 : Int)) (Option.bind (m_codec_Reader_U16 F p0) fun (o19_0, v19) => some (o19_0, (v19 == (IntKind.wrap .u16
    p1.N)))) (cond ((Int.tmod p1.Kind 7) == (2 : Int)) (Option.bind (m_codec_Reader_U32 F p0) fun (o27_0, v27) => some (o27_0, (v27 == (IntKind.wrap
    .u32 p1.N)))) (cond ((Int.tmod p1.Kind 7) == (3 : Int)) (Option.bind (m_codec_Reader_U64 F p0) fun (o35_0, v35) => some (o35_0, (v35 == p1.N)))
    (cond ((Int.tmod p1.Kind 7) == (4 : Int)) (Option.bind (m_codec_Reader_I32 F p0) fun (o42_0, v42) => some (o42_0, (v42 == (IntKind.wrap .i32
    p1.N)))) (cond ((Int.tmod p1.Kind 7) == (5 : Int)) (Option.bind (m_codec_Reader_Var F p0) fun (o50_0, v50) => some (o50_0, (v50 == p1.N)))
    (Option.bind (m_codec_Reader_Text F p0) fun (o55_0, v55) => some (o55_0, (v55 == p1.S)))))))))

def m_hindcastlaw02_CodecBack_L16 (F : Nat) (p0 : (List T_hindcastlaw02_Item)) : Nat → Int → (List Int) → Option ((List Int))
  | 0, _, _ => none
  | n + 1, j17_8, j17_n24_f0 =>
      (cond (decide (j17_8 < (p0.length : Int))) (Option.bind (getI p0 j17_8) fun v34 => (Option.bind (m_hindcastlaw02_put F (T_codec_Writer.mk
        j17_n24_f0) v34) fun o36_0 => m_hindcastlaw02_CodecBack_L16 F p0 n (IntKind.wrap .i64 (j17_8 + (1 : Int))) o36_0.b)) (some j17_n24_f0))

def m_hindcastlaw02_CodecBack_L43 (F : Nat) (p0 : (List T_hindcastlaw02_Item)) : Nat → Int → T_codec_Reader → Option ((Bool × T_codec_Reader) ⊕ (Bool))
  | 0, _, _ => none
  | n + 1, j44_11, j44_n42_0 =>
      (cond (decide (j44_11 < (p0.length : Int))) (Option.bind (getI p0 j44_11) fun v54 => (Option.bind (m_hindcastlaw02_get F j44_n42_0 v54) fun
        (o56_0, v56) => (cond (!v56) (some (.inr false)) (m_hindcastlaw02_CodecBack_L43 F p0 n (IntKind.wrap .i64 (j44_11 + (1 : Int))) o56_0))))
        (some (.inl (false, j44_n42_0))))

def m_hindcastlaw02_CodecBack_L90 (F : Nat) (p0 : (List T_hindcastlaw02_Item)) : Nat → Int → T_codec_Reader → Option (T_codec_Reader)
  | 0, _, _ => none
  | n + 1, j91_13, j91_n83_0 =>
      (cond (decide (j91_13 < (p0.length : Int))) (Option.bind (getI p0 j91_13) fun v95 => (Option.bind (m_hindcastlaw02_get F j91_n83_0 v95) fun
        (o97_0, v97) => m_hindcastlaw02_CodecBack_L90 F p0 n (IntKind.wrap .i64 (j91_13 + (1 : Int))) o97_0)) (some j91_n83_0))

def m_hindcastlaw02_CodecBack (F : Nat) (p0 : (List T_hindcastlaw02_Item)) (p1 : (List UInt8)) (p2 : Int) : Option (Bool) :=
  (Option.bind (m_hindcastlaw02_few F p0) fun v15 => (Option.bind (cond (!v15) (some (true)) (some ((decide ((1000 : Int) < (p1.length : Int)))))) fun
    v21 => (cond v21 (Option.bind (m_hindcastlaw02_works F) fun v22 => some v22) (Option.bind (m_hindcastlaw02_CodecBack_L16 F p0 F (0 : Int) ([] :
    List Int)) fun l17_n24_f0 => (Option.bind (m_codec_Writer_Bytes F (T_codec_Writer.mk l17_n24_f0)) fun v38 => (Option.bind (appI v38 p1) fun v41 =>
    (Option.bind (m_codec_New F v41) fun v42 => (Option.bind (m_hindcastlaw02_CodecBack_L43 F p0 F (0 : Int) v42) (orE (fun (l44_6, l44_n42_0) =>
    (Option.bind (m_codec_Reader_Err F l44_n42_0) fun v59 => (Option.bind (cond (v59 != (0 : Int)) (some (true)) ((Option.bind (m_codec_Reader_Rest F
    l44_n42_0) fun v63 => some ((!(v63 == p1)))))) fun v66 => (cond v66 (some false) (cond ((v38.length : Int) == (0 : Int)) (Option.bind (cond
    ((p0.length : Int) == (0 : Int)) ((Option.bind (m_hindcastlaw02_works F) fun v74 => some (v74))) (some (false))) fun v75 => some v75) (Option.bind
    (remI (IntKind.wrap .i64 p2) (v38.length : Int)) fun v81 => (Option.bind (cutI v38 0 v81) fun v82 => (Option.bind (m_codec_New F v82) fun v83 =>
    (Option.bind (m_hindcastlaw02_CodecBack_L90 F p0 F (0 : Int) v83) fun l91_n83_0 => (Option.bind (m_codec_Reader_Err F l91_n83_0) fun v99 =>
    (Option.bind (cond (v99 == (10 : Int)) ((Option.bind (m_codec_Reader_Rest F l91_n83_0) fun v103 => some ((v103 == ([] : List UInt8))))) (some
    (false))) fun v105 => (Option.bind (cond v105 ((Option.bind (m_hindcastlaw02_works F) fun v107 => some (v107))) (some (false))) fun v108 => some
    v108)))))))))))) (fun r44 => some r44))))))))))

end Go.Proofs.Ytpcaiefefanpoaa
