/-
  Models of the functions of the chapter: what each computes, as a Lean function (none: it is not said). Printed by a program of this claim's own.
-/
import Derived.Test.YtolmilcdhphnhaaEng2
namespace Go.Proofs.Ytolmilcdhphnhaa
open Go.Proofs.Ytolmilcdhphnhaa.Eng
set_option linter.unusedVariables false
set_option linter.unusedSimpArgs false

structure T_codec_left where
  s : (List UInt8)
  e : Int
theorem T_codec_left.eta (x : T_codec_left) : T_codec_left.mk x.s x.e = x := rfl

def c_T_codec_left (x : T_codec_left) : List Value := [.string ⟨x.s.toArray⟩, .int .i64 x.e]
theorem c_T_codec_left_len (x : T_codec_left) : (c_T_codec_left x).length = 2 := rfl

structure T_codec_Reader where
  left : T_codec_left
theorem T_codec_Reader.eta (x : T_codec_Reader) : T_codec_Reader.mk x.left = x := rfl

def c_T_codec_Reader (x : T_codec_Reader) : List Value := [.string ⟨x.left.s.toArray⟩, .int .i64 x.left.e]
theorem c_T_codec_Reader_len (x : T_codec_Reader) : (c_T_codec_Reader x).length = 2 := rfl

structure T_input_run where
  n : Int
  i : Int
theorem T_input_run.eta (x : T_input_run) : T_input_run.mk x.n x.i = x := rfl

def c_T_input_run (x : T_input_run) : List Value := [.int .i64 x.n, .int .u8 x.i]
theorem c_T_input_run_len (x : T_input_run) : (c_T_input_run x).length = 2 := rfl

structure T_codec_Writer where
  b : (List Int)
theorem T_codec_Writer.eta (x : T_codec_Writer) : T_codec_Writer.mk x.b = x := rfl

def m_input_way (F : Nat) (p0 : Int) (p1 : Int) (p2 : Int) : Option (Int) :=
  (cond ((bits .and .u8 p0 (bits .or .u8 p1 p2)) == p1) (some (-1 : Int)) (cond ((bits .and .u8 p0 (bits .or .u8 p1 p2)) == p2) (some (1 : Int)) (some
    (0 : Int))))

def m_input_Dir (F : Nat) (p0 : Int) : Option (Int × Int) :=
  (Option.bind (m_input_way F p0 (1 : Int) (2 : Int)) fun v5 => (Option.bind (m_input_way F p0 (4 : Int) (8 : Int)) fun v7 => some (v5, v7)))

def m_codec_New (F : Nat) (p0 : (List UInt8)) : Option (T_codec_Reader) :=
  some (T_codec_Reader.mk (T_codec_left.mk p0 (0 : Int)))

def m_codec_left_fail (F : Nat) (p0 : T_codec_left) (p1 : Int) : Option (T_codec_left) :=
  (cond (p0.e == (0 : Int)) (some (T_codec_left.mk ([] : List UInt8) p1)) (some p0))

def m_codec_left_take (F : Nat) (p0 : T_codec_left) (p1 : Int) : Option (T_codec_left × (List UInt8) × Bool) :=
  (cond (p0.e != (0 : Int)) (some (p0, ([] : List UInt8), false)) (cond (decide ((IntKind.wrap .u64 (p0.s.length : Int)) < p1)) (Option.bind
    (m_codec_left_fail F p0 (10 : Int)) fun o21_0 => some (o21_0, ([] : List UInt8), false)) (Option.bind (cutI p0.s 0 p1) fun v27 => (Option.bind
    (cutI p0.s p1 (p0.s.length : Int)) fun v34 => some ((T_codec_left.mk v34 p0.e), v27, true)))))

def m_codec_Reader_Var_L14 (F : Nat) : Nat → Int → Int → T_codec_Reader → Option ((Int × T_codec_Reader) ⊕ (T_codec_Reader × Int))
  | 0, _, _, _ => none
  | n + 1, j15_2, j15_9, j15_p0 =>
      (cond (decide (j15_9 < (10 : Int))) (Option.bind (m_codec_left_take F j15_p0.left (1 : Int)) fun (o16_0, v16_0, v16_1) => (cond (!v16_1) (some
        (.inr ((T_codec_Reader.mk o16_0), (0 : Int)))) (Option.bind (getI v16_0 (0 : Int)) fun v22 => (Option.bind (cond (j15_9 == (9 : Int)) (some
        ((decide ((1 : Int) < (v22.toNat : Int))))) (some (false))) fun v29 => (cond v29 (Option.bind (m_codec_left_fail F o16_0 (3 : Int)) fun o33_0
        => some (.inr ((T_codec_Reader.mk o33_0), (0 : Int)))) (Option.bind (cond ((v22.toNat : Int) == (0 : Int)) (some ((decide ((0 : Int) <
        j15_9)))) (some (false))) fun v40 => (cond v40 (Option.bind (m_codec_left_fail F o16_0 (4 : Int)) fun o44_0 => some (.inr ((T_codec_Reader.mk
        o44_0), (0 : Int)))) (Option.bind (shlI .u64 (IntKind.wrap .u64 (bits .and .u8 (v22.toNat : Int) (127 : Int))) (IntKind.wrap .i64 ((7 : Int) *
        j15_9))) fun v51 => (cond (decide ((v22.toNat : Int) < (128 : Int))) (some (.inr ((T_codec_Reader.mk o16_0), (bits .or .u64 j15_2 v51))))
        (m_codec_Reader_Var_L14 F n (bits .or .u64 j15_2 v51) (IntKind.wrap .i64 (j15_9 + (1 : Int))) (T_codec_Reader.mk o16_0))))))))))) (some (.inl
        (j15_2, j15_p0))))

def m_codec_Reader_Var (F : Nat) (p0 : T_codec_Reader) : Option (T_codec_Reader × Int) :=
  (Option.bind (m_codec_Reader_Var_L14 F F (0 : Int) (0 : Int) p0) (orE (fun (l15_2, l15_p0) => some (l15_p0, l15_2)) (fun r15 => some r15)))

def m_codec_Reader_Err (F : Nat) (p0 : T_codec_Reader) : Option (Int) :=
  some p0.left.e

def m_codec_get_uint8_L16 (F : Nat) (v16_0 : (List UInt8)) : Nat → Int → Int → Option (Int)
  | 0, _, _ => none
  | n + 1, j17_4, j17_21 =>
      (cond (decide (j17_21 < (v16_0.length : Int))) (Option.bind (getI v16_0 j17_21) fun v27 => (Option.bind (shlI .u64 (IntKind.wrap .u64 (v27.toNat
        : Int)) (IntKind.wrap .i64 ((8 : Int) * j17_21))) fun v31 => m_codec_get_uint8_L16 F v16_0 n (bits .or .u8 j17_4 (IntKind.wrap .u8 v31))
        (IntKind.wrap .i64 (j17_21 + (1 : Int))))) (some j17_4))

def m_codec_get_uint8 (F : Nat) (p0 : T_codec_Reader) (p1 : Int) : Option (T_codec_Reader × Int) :=
  (Option.bind (m_codec_left_take F p0.left (IntKind.wrap .u64 p1)) fun (o16_0, v16_0, v16_1) => (Option.bind (m_codec_get_uint8_L16 F v16_0 F (0 :
    Int) (0 : Int)) fun l17_4 => some ((T_codec_Reader.mk o16_0), l17_4)))

def m_codec_Reader_U8 (F : Nat) (p0 : T_codec_Reader) : Option (T_codec_Reader × Int) :=
  (Option.bind (m_codec_get_uint8 F p0 (1 : Int)) fun (o4_0, v4) => some (o4_0, v4))

def m_input_Legal (F : Nat) (p0 : Int) : Option (Bool) :=
  some (decide (p0 < (64 : Int)))

def m_codec_Reader_Rest (F : Nat) (p0 : T_codec_Reader) : Option ((List UInt8)) :=
  some p0.left.s

def m_input_Unpack_L66 (F : Nat) (v35 : Int) (v37 : Int) : Nat → (List Int) → Int → Option ((List Int))
  | 0, _, _ => none
  | n + 1, j67_8, j67_75 =>
      (cond (decide (j67_75 < v35)) (Option.bind (appI j67_8 ([v37] : List Int)) fun v80 => m_input_Unpack_L66 F v35 v37 n v80 (IntKind.wrap .u64
        (j67_75 + (1 : Int)))) (some j67_8))

def m_input_Unpack_L29 (F : Nat) (p1 : Int) (v18 : Int) : Nat → (List Int) → Int → T_codec_Reader → Option (((List Int) × Int × (List Int) × T_codec_Reader) ⊕ ((List Int) × Int))
  | 0, _, _, _ => none
  | n + 1, j30_8, j30_31, j30_n16_0 =>
      (cond (decide (j30_31 < v18)) (Option.bind (m_codec_Reader_Var F j30_n16_0) fun (o35_0, v35) => (Option.bind (m_codec_Reader_U8 F o35_0) fun
        (o37_0, v37) => (Option.bind (m_codec_Reader_Err F o37_0) fun v40 => (cond (v40 != (0 : Int)) (Option.bind (m_codec_Reader_Err F o37_0) fun
        v43 => some (.inr (([] : List Int), v43))) (Option.bind (cond (v35 == (0 : Int)) (some (true)) ((Option.bind (m_input_Legal F v37) fun v49 =>
        some ((!v49))))) fun v51 => (Option.bind (cond v51 (some (true)) ((Option.bind (cond (decide ((0 : Int) < j30_31)) ((Option.bind (getI j30_8
        (IntKind.wrap .i64 ((j30_8.length : Int) - (1 : Int)))) fun v60 => some ((v60 == v37)))) (some (false))) fun v64 => some (v64)))) fun v65 =>
        (cond v65 (some (.inr (([] : List Int), (4 : Int)))) (cond (decide ((IntKind.wrap .u64 (IntKind.wrap .i64 ((max (0 : Int) (min p1 (4096 :
        Int))) - (j30_8.length : Int)))) < v35)) (some (.inr (([] : List Int), (3 : Int)))) (Option.bind (m_input_Unpack_L66 F v35 v37 F j30_8 (0 :
        Int)) fun l67_8 => m_input_Unpack_L29 F p1 v18 n l67_8 (IntKind.wrap .u64 (j30_31 + (1 : Int))) o37_0))))))))) (some (.inl (([] : List Int),
        (0 : Int), j30_8, j30_n16_0))))

def m_input_Unpack (F : Nat) (p0 : (List UInt8)) (p1 : Int) : Option ((List Int) × Int) :=
  (Option.bind (m_codec_New F p0) fun v16 => (Option.bind (m_codec_Reader_Var F v16) fun (o18_0, v18) => (Option.bind (m_codec_Reader_Err F o18_0) fun
    v21 => (cond (v21 != (0 : Int)) (Option.bind (m_codec_Reader_Err F o18_0) fun v24 => some (([] : List Int), v24)) (cond (decide ((IntKind.wrap
    .u64 (max (0 : Int) (min p1 (4096 : Int)))) < v18)) (some (([] : List Int), (3 : Int))) (Option.bind (m_input_Unpack_L29 F p1 v18 F ([] : List
    Int) (0 : Int) o18_0) (orE (fun (l30_4, l30_5, l30_8, l30_n16_0) => (Option.bind (m_codec_Reader_Rest F l30_n16_0) fun v84 => (cond (!(v84 == ([]
    : List UInt8))) (some (([] : List Int), (4 : Int))) (some (l30_8, (0 : Int)))))) (fun r30 => some r30))))))))

def m_input_runs_L9 (F : Nat) (p0 : (List Int)) : Nat → (List T_input_run) → Int → Option (((List T_input_run) × Bool) ⊕ ((List T_input_run) × Bool))
  | 0, _, _ => none
  | n + 1, j10_2, j10_9 =>
      (cond (decide (j10_9 < (p0.length : Int))) (Option.bind (getI p0 j10_9) fun v11 => (Option.bind (m_input_Legal F v11) fun v14 => (cond (!v14)
        (some (.inr (([] : List T_input_run), false))) (Option.bind (cond (decide ((0 : Int) < (j10_2.length : Int))) ((Option.bind (getI j10_2
        (IntKind.wrap .i64 ((j10_2.length : Int) - (1 : Int)))) fun v24 => some ((v24.i == v11)))) (some (false))) fun v29 => (cond v29 (Option.bind
        (getI j10_2 (IntKind.wrap .i64 ((j10_2.length : Int) - (1 : Int)))) fun v33 => (Option.bind (getI j10_2 (IntKind.wrap .i64 ((j10_2.length :
        Int) - (1 : Int)))) fun v37 => m_input_runs_L9 F p0 n (setI j10_2 (IntKind.wrap .i64 ((j10_2.length : Int) - (1 : Int))) (T_input_run.mk
        (IntKind.wrap .i64 (v33.n + (1 : Int))) v37.i)) (IntKind.wrap .i64 (j10_9 + (1 : Int))))) (Option.bind (appI j10_2 ([(T_input_run.mk (1 : Int)
        v11)] : List T_input_run)) fun v43 => m_input_runs_L9 F p0 n v43 (IntKind.wrap .i64 (j10_9 + (1 : Int))))))))) (some (.inl (j10_2, false))))

def m_input_runs (F : Nat) (p0 : (List Int)) : Option ((List T_input_run) × Bool) :=
  (Option.bind (m_input_runs_L9 F p0 F ([] : List T_input_run) (0 : Int)) (orE (fun (l10_2, l10_3) => some (l10_2, true)) (fun r10 => some r10)))

def m_codec_put_uint8_L9 (F : Nat) (p1 : Int) (p2 : Int) : Nat → Int → (List Int) → Option ((List Int))
  | 0, _, _ => none
  | n + 1, j10_10, j10_p0_f0 =>
      (cond (decide (j10_10 < p2)) (Option.bind (shrI .u64 (IntKind.wrap .u64 p1) (IntKind.wrap .i64 ((8 : Int) * j10_10))) fun v22 => (Option.bind
        (appI j10_p0_f0 ([(IntKind.wrap .u8 v22)] : List Int)) fun v25 => m_codec_put_uint8_L9 F p1 p2 n (IntKind.wrap .i64 (j10_10 + (1 : Int)))
        v25)) (some j10_p0_f0))

def m_codec_put_uint8 (F : Nat) (p0 : T_codec_Writer) (p1 : Int) (p2 : Int) : Option (T_codec_Writer) :=
  (Option.bind (m_codec_put_uint8_L9 F p1 p2 F (0 : Int) p0.b) fun l10_p0_f0 => some (T_codec_Writer.mk l10_p0_f0))

def m_codec_Writer_U8 (F : Nat) (p0 : T_codec_Writer) (p1 : Int) : Option (T_codec_Writer) :=
  (Option.bind (m_codec_put_uint8 F p0 p1 (1 : Int)) fun o6_0 => some o6_0)

def m_codec_Writer_Var_L2 (F : Nat) : Nat → Int → (List Int) → Option (Int × (List Int))
  | 0, _, _ => none
  | n + 1, j3_1, j3_p0_f0 =>
      (cond (decide ((127 : Int) < j3_1)) (Option.bind (m_codec_Writer_U8 F (T_codec_Writer.mk j3_p0_f0) (bits .or .u8 (IntKind.wrap .u8 j3_1) (128 :
        Int))) fun o10_0 => m_codec_Writer_Var_L2 F n (j3_1 / 2 ^ (min 7 (IntKind.bits .u64))) o10_0.b) (some (j3_1, j3_p0_f0)))

def m_codec_Writer_Var (F : Nat) (p0 : T_codec_Writer) (p1 : Int) : Option (T_codec_Writer) :=
  (Option.bind (m_codec_Writer_Var_L2 F F p1 p0.b) fun (l3_1, l3_p0_f0) => (Option.bind (m_codec_Writer_U8 F (T_codec_Writer.mk l3_p0_f0)
    (IntKind.wrap .u8 l3_1)) fun o16_0 => some o16_0))

def m_codec_Writer_Bytes (F : Nat) (p0 : T_codec_Writer) : Option ((List UInt8)) :=
  some (toB p0.b)

def m_input_Pack_L20 (F : Nat) (v10_0 : (List T_input_run)) : Nat → Int → (List Int) → Option ((List Int))
  | 0, _, _ => none
  | n + 1, j21_21, j21_n5_f0 =>
      (cond (decide (j21_21 < (v10_0.length : Int))) (Option.bind (getI v10_0 j21_21) fun v23 => (Option.bind (m_codec_Writer_Var F (T_codec_Writer.mk
        j21_n5_f0) (IntKind.wrap .u64 v23.n)) fun o28_0 => (Option.bind (m_codec_Writer_U8 F o28_0 v23.i) fun o31_0 => m_input_Pack_L20 F v10_0 n
        (IntKind.wrap .i64 (j21_21 + (1 : Int))) o31_0.b))) (some j21_n5_f0))

def m_input_Pack (F : Nat) (p0 : (List Int)) : Option ((List UInt8)) :=
  (Option.bind (m_input_runs F p0) fun (v10_0, v10_1) => (cond (!v10_1) (some ([] : List UInt8)) (Option.bind (m_codec_Writer_Var F (T_codec_Writer.mk
    ([] : List Int)) (IntKind.wrap .u64 (v10_0.length : Int))) fun o18_0 => (Option.bind (m_input_Pack_L20 F v10_0 F (0 : Int) o18_0.b) fun l21_n5_f0
    => (Option.bind (m_codec_Writer_Bytes F (T_codec_Writer.mk l21_n5_f0)) fun v33 => some v33)))))

def m_hindcastlaw06_fails (F : Nat) (p0 : (List UInt8)) (p1 : Int) (p2 : Int) : Option (Bool) :=
  (Option.bind (m_input_Unpack F p0 p1) fun (v12_0, v12_1) => (Option.bind (cond ((v12_0.length : Int) == (0 : Int)) (some ((v12_1 == p2))) (some
    (false))) fun v22 => some v22))

def m_hindcastlaw06_works (F : Nat) : Option (Bool) :=
  (Option.bind (m_input_Dir F (6 : Int)) fun (v6_0, v6_1) => (Option.bind (m_input_Unpack F ([2, 3, 5, 1, 0] : List UInt8) (4 : Int)) fun (v10_0,
    v10_1) => (Option.bind (cond (v6_0 == (1 : Int)) (some ((v6_1 == (-1 : Int)))) (some (false))) fun v18 => (Option.bind (cond v18 ((Option.bind
    (m_input_Pack F ([(5 : Int), (5 : Int), (5 : Int), (0 : Int)] : List Int)) fun v21 => some ((v21 == ([2, 3, 5, 1, 0] : List UInt8))))) (some
    (false))) fun v23 => (Option.bind (cond v23 (some (((v10_0.length : Int) == (4 : Int)))) (some (false))) fun v28 => (Option.bind (cond v28 (some
    ((v10_1 == (0 : Int)))) (some (false))) fun v32 => (Option.bind (cond v32 ((Option.bind (m_hindcastlaw06_fails F ([] : List UInt8) (9 : Int) (10 :
    Int)) fun v34 => some (v34))) (some (false))) fun v35 => some v35)))))))

def m_hindcastref06_Legal (F : Nat) (p0 : Int) : Option (Bool) :=
  some (decide (p0 < (64 : Int)))

def m_hindcastref02_Var_L6 (F : Nat) : Nat → Int → (List Int) → Option (Int × (List Int))
  | 0, _, _ => none
  | n + 1, j7_0, j7_3 =>
      (cond (decide ((128 : Int) ≤ j7_0)) (Option.bind (appI j7_3 ([(IntKind.wrap .u8 (IntKind.wrap .u64 ((Int.tmod j7_0 128) + (128 : Int))))] : List
        Int)) fun v12 => m_hindcastref02_Var_L6 F n (IntKind.wrap .u64 (Int.tdiv j7_0 128)) v12) (some (j7_0, j7_3)))

def m_hindcastref02_Var (F : Nat) (p0 : Int) : Option ((List UInt8)) :=
  (Option.bind (m_hindcastref02_Var_L6 F F p0 ([] : List Int)) fun (l7_0, l7_3) => (Option.bind (appI l7_3 ([(IntKind.wrap .u8 l7_0)] : List Int)) fun
    v19 => some (toB v19)))

def m_hindcastref06_Pack_L37 (F : Nat) (p0 : (List Int)) (j11_5 : Int) : Nat → Int → Option (Int)
  | 0, _ => none
  | n + 1, j38_6 =>
      (Option.bind (cond (decide (j38_6 < (p0.length : Int))) ((Option.bind (getI p0 j38_6) fun v41 => (Option.bind (getI p0 j11_5) fun v45 => some
        ((v41 == v45))))) (some (false))) fun v48 => (cond v48 (m_hindcastref06_Pack_L37 F p0 j11_5 n (IntKind.wrap .i64 (j38_6 + (1 : Int)))) (some
        j38_6)))

def m_hindcastref06_Pack_L10 (F : Nat) (p0 : (List Int)) : Nat → Int → (List UInt8) → Int → Option (((List UInt8) × Int × (List UInt8)) ⊕ ((List UInt8)))
  | 0, _, _, _ => none
  | n + 1, j11_3, j11_4, j11_5 =>
      (cond (decide (j11_5 < (p0.length : Int))) (Option.bind (getI p0 j11_5) fun v15 => (Option.bind (m_hindcastref06_Legal F v15) fun v17 => (cond
        (!v17) (some (.inr ([] : List UInt8))) (Option.bind (cond (decide ((0 : Int) < j11_5)) ((Option.bind (getI p0 j11_5) fun v24 => (Option.bind
        (getI p0 (IntKind.wrap .i64 (j11_5 - (1 : Int)))) fun v29 => some ((v24 == v29))))) (some (false))) fun v32 => (cond v32
        (m_hindcastref06_Pack_L10 F p0 n j11_3 j11_4 (IntKind.wrap .i64 (j11_5 + (1 : Int)))) (Option.bind (m_hindcastref06_Pack_L37 F p0 j11_5 F
        j11_5) fun l38_6 => (Option.bind (getI p0 j11_5) fun v60 => (Option.bind (m_hindcastref02_Var F (IntKind.wrap .u64 (IntKind.wrap .i64 (l38_6 -
        j11_5)))) fun v56 => (Option.bind (appI j11_4 v56) fun v57 => (Option.bind (appI v57 (toB ([v60] : List Int))) fun v64 =>
        m_hindcastref06_Pack_L10 F p0 n (IntKind.wrap .u64 (j11_3 + (1 : Int))) v64 (IntKind.wrap .i64 (j11_5 + (1 : Int))))))))))))) (some (.inl (([]
        : List UInt8), j11_3, j11_4))))

def m_hindcastref06_Pack (F : Nat) (p0 : (List Int)) : Option ((List UInt8)) :=
  (Option.bind (m_hindcastref06_Pack_L10 F p0 F (0 : Int) ([] : List UInt8) (0 : Int)) (orE (fun (l11_2, l11_3, l11_4) => (Option.bind
    (m_hindcastref02_Var F l11_3) fun v68 => (Option.bind (appI v68 l11_4) fun v70 => some v70))) (fun r11 => some r11)))

def m_input_Predict (F : Nat) (p0 : (List Int)) : Option (Int) :=
  (cond ((p0.length : Int) == (0 : Int)) (some (0 : Int)) (Option.bind (getI p0 (IntKind.wrap .i64 ((p0.length : Int) - (1 : Int)))) fun v10 => some
    v10))

def m_hindcastref06_Predict_L8 (F : Nat) (p0 : (List Int)) : Nat → Int → Int → Option (Int)
  | 0, _, _ => none
  | n + 1, j9_3, j9_4 =>
      (cond (decide (j9_4 < (p0.length : Int))) (Option.bind (getI p0 j9_4) fun v13 => m_hindcastref06_Predict_L8 F p0 n v13 (IntKind.wrap .i64 (j9_4
        + (1 : Int)))) (some j9_3))

def m_hindcastref06_Predict (F : Nat) (p0 : (List Int)) : Option (Int) :=
  (Option.bind (m_hindcastref06_Predict_L8 F p0 F (0 : Int) (0 : Int)) fun l9_3 => some l9_3)

def m_hindcastref06_Same_L14 (F : Nat) (p0 : (List Int)) (p1 : (List Int)) : Nat → Int → Option ((Bool) ⊕ (Bool))
  | 0, _ => none
  | n + 1, j15_5 =>
      (cond (decide (j15_5 < (p0.length : Int))) (Option.bind (getI p0 j15_5) fun v19 => (Option.bind (getI p1 j15_5) fun v23 => (cond (v19 != v23)
        (some (.inr false)) (m_hindcastref06_Same_L14 F p0 p1 n (IntKind.wrap .i64 (j15_5 + (1 : Int))))))) (some (.inl false)))

def m_hindcastref06_Same (F : Nat) (p0 : (List Int)) (p1 : (List Int)) : Option (Bool) :=
  (cond ((p0.length : Int) != (p1.length : Int)) (some false) (Option.bind (m_hindcastref06_Same_L14 F p0 p1 F (0 : Int)) (orE (fun l15_4 => some
    true) (fun r15 => some r15))))

def m_hindcastlaw06_InputPacks (F : Nat) (p0 : (List Int)) : Option (Bool) :=
  (cond (decide ((1500 : Int) < (p0.length : Int))) (Option.bind (m_hindcastlaw06_works F) fun v7 => some v7) (Option.bind (appI ([] : List Int) p0)
    fun v10 => (Option.bind (m_input_Pack F v10) fun v12 => (Option.bind (m_hindcastref06_Pack F p0) fun v14 => (Option.bind (cond (v12 == v14)
    ((Option.bind (m_input_Predict F v10) fun v18 => (Option.bind (m_hindcastref06_Predict F p0) fun v20 => some ((v18 == v20))))) (some (false))) fun
    v22 => (Option.bind (cond v22 ((Option.bind (m_hindcastref06_Same F v10 p0) fun v26 => some (v26))) (some (false))) fun v27 => (Option.bind (cond
    v27 ((Option.bind (m_hindcastlaw06_works F) fun v29 => some (v29))) (some (false))) fun v30 => some v30)))))))

end Go.Proofs.Ytolmilcdhphnhaa
