/-
  Models of the functions of the chapter: what each computes, as a Lean function (none: it is not said). Printed by a program of this claim's own.
-/
import Derived.Test.YtgnddjlbhfoioaaDoorEng2
namespace Go.Proofs.YtgnddjlbhfoioaaDoor
open Go.Proofs.YtgnddjlbhfoioaaDoor.Eng
set_option linter.unusedVariables false
set_option linter.unusedSimpArgs false

structure T_hindcastlaw10_Change where
  S : (List UInt8)
  L : (List (Int × Int))
  At : Int
  Byte : Int
  Pair : (Int × Int)
theorem T_hindcastlaw10_Change.eta (x : T_hindcastlaw10_Change) : T_hindcastlaw10_Change.mk x.S x.L x.At x.Byte x.Pair = x := rfl

structure T_api_Player where
  X : Int
  Y : Int
  VX : Int
  VY : Int
  Health : Int
  Cool : Int
  Face : Int
theorem T_api_Player.eta (x : T_api_Player) : T_api_Player.mk x.X x.Y x.VX x.VY x.Health x.Cool x.Face = x := rfl

def c_T_api_Player (x : T_api_Player) : List Value := [.int .i32 x.X, .int .i32 x.Y, .int .i32 x.VX, .int .i32 x.VY, .int .u8 x.Health, .int .u8 x.Cool, .int .u8 x.Face]
theorem c_T_api_Player_len (x : T_api_Player) : (c_T_api_Player x).length = 7 := rfl

structure T_api_Shot where
  X : Int
  Y : Int
  VX : Int
  VY : Int
  Owner : Int
  Life : Int
theorem T_api_Shot.eta (x : T_api_Shot) : T_api_Shot.mk x.X x.Y x.VX x.VY x.Owner x.Life = x := rfl

def c_T_api_Shot (x : T_api_Shot) : List Value := [.int .i32 x.X, .int .i32 x.Y, .int .i32 x.VX, .int .i32 x.VY, .int .u8 x.Owner, .int .u8 x.Life]
theorem c_T_api_Shot_len (x : T_api_Shot) : (c_T_api_Shot x).length = 6 := rfl

structure T_api_State where
  Frame : Int
  Seed : Int
  Players : (T_api_Player × T_api_Player)
  Shots : (List T_api_Shot)
  Score : (Int × Int)
theorem T_api_State.eta (x : T_api_State) : T_api_State.mk x.Frame x.Seed x.Players x.Shots x.Score = x := rfl

def gl_state_playerBounds : List Value := [.int .i32 (0 : Int), .int .i32 (61440 : Int), .int .i32 (0 : Int), .int .i32 (28672 : Int), .int .i32 ((-1024) : Int), .int .i32 (1024 : Int), .int .i32 ((-1024) : Int), .int .i32 (1024 : Int), .int .i32 (1 : Int), .int .i32 (100 : Int), .int .i32 (0 : Int), .int .i32 (30 : Int), .int .i32 (0 : Int), .int .i32 (3 : Int)]

def gl_state_shotBounds : List Value := [.int .i32 (0 : Int), .int .i32 (65024 : Int), .int .i32 (0 : Int), .int .i32 (32256 : Int), .int .i32 ((-2048) : Int), .int .i32 (2048 : Int), .int .i32 ((-2048) : Int), .int .i32 (2048 : Int), .int .i32 (0 : Int), .int .i32 (1 : Int), .int .i32 (1 : Int), .int .i32 (40 : Int)]

structure T_codec_Writer where
  b : (List Int)
theorem T_codec_Writer.eta (x : T_codec_Writer) : T_codec_Writer.mk x.b = x := rfl

def m_digest_Join_L6 (F : Nat) (p1 : (List UInt8)) : Nat → Int → Int → Option (Int)
  | 0, _, _ => none
  | n + 1, j7_0, j7_8 =>
      (cond (decide (j7_8 < (p1.length : Int))) (Option.bind (getI p1 j7_8) fun v14 => m_digest_Join_L6 F p1 n (IntKind.wrap .u64 ((bits .xor .u64
        j7_0 (IntKind.wrap .u64 (v14.toNat : Int))) * (1099511628211 : Int))) (IntKind.wrap .i64 (j7_8 + (1 : Int)))) (some j7_0))

def m_digest_Join (F : Nat) (p0 : Int) (p1 : (List UInt8)) : Option (Int) :=
  (Option.bind (m_digest_Join_L6 F p1 F p0 (0 : Int)) fun l7_0 => some l7_0)

def m_digest_going (F : Nat) (p0 : Int) : Option (Int) :=
  some p0

def m_digest_going_1_L6 (F : Nat) (p0 : (Int × Int)) : Nat → Int → Int → Option (Int)
  | 0, _, _ => none
  | n + 1, j7_7, j7_p1 =>
      (cond (decide (j7_7 < (2 : Int))) (cond (j7_7 == (0 : Int)) (m_digest_going_1_L6 F p0 n (IntKind.wrap .i64 (j7_7 + (1 : Int))) (IntKind.wrap
        .u64 ((bits .xor .u64 j7_p1 (IntKind.wrap .u64 p0.1)) * (1099511628211 : Int)))) (cond (j7_7 == (1 : Int)) (m_digest_going_1_L6 F p0 n
        (IntKind.wrap .i64 (j7_7 + (1 : Int))) (IntKind.wrap .u64 ((bits .xor .u64 j7_p1 (IntKind.wrap .u64 p0.2)) * (1099511628211 : Int)))) none))
        (some j7_p1))

def m_digest_going_1 (F : Nat) (p0 : (Int × Int)) (p1 : Int) : Option (Int × Int) :=
  (Option.bind (m_digest_going_1_L6 F p0 F (0 : Int) p1) fun l7_p1 => some (l7_p1, l7_p1))

def m_digest_Mix (F : Nat) (p0 : Int) (p1 : (Int × Int)) : Option (Int) :=
  (Option.bind (m_digest_going F p0) fun v6 => (Option.bind (m_digest_going_1 F p1 v6) fun (o8_1, v8) => some v8))

def m_state_ofPlayer (F : Nat) (p0 : T_api_Player) : Option ((List Int)) :=
  some ([p0.X, p0.Y, p0.VX, p0.VY, (IntKind.wrap .i32 p0.Health), (IntKind.wrap .i32 p0.Cool), (IntKind.wrap .i32 p0.Face)] : List Int)

def m_state_within_L6 (F : Nat) (p0 : (List Int)) (p1 : (List (Int × Int))) : Nat → Int → Option ((Bool) ⊕ (Bool))
  | 0, _ => none
  | n + 1, j7_8 =>
      (cond (decide (j7_8 < (p0.length : Int))) (Option.bind (getI p0 j7_8) fun v13 => (Option.bind (getI p1 j7_8) fun v17 => (Option.bind (cond
        (decide (v13 < v17.1)) (some (true)) ((Option.bind (getI p0 j7_8) fun v24 => (Option.bind (getI p1 j7_8) fun v28 => some ((decide (v28.2 <
        v24))))))) fun v32 => (cond v32 (some (.inr false)) (m_state_within_L6 F p0 p1 n (IntKind.wrap .i64 (j7_8 + (1 : Int)))))))) (some (.inl
        false)))

def m_state_within (F : Nat) (p0 : (List Int)) (p1 : (List (Int × Int))) : Option (Bool) :=
  (Option.bind (m_state_within_L6 F p0 p1 F (0 : Int)) (orE (fun l7_4 => some true) (fun r7 => some r7)))

def m_state_ofShot (F : Nat) (p0 : T_api_Shot) : Option ((List Int)) :=
  some ([p0.X, p0.Y, p0.VX, p0.VY, (IntKind.wrap .i32 p0.Owner), (IntKind.wrap .i32 p0.Life)] : List Int)

def m_state_Check_1 (F : Nat) (p0 : T_api_Shot) (p1 : (Arr (Int × Int) 6)) : Option (Bool) :=
  (Option.bind (m_state_ofShot F p0) fun v5 => (Option.bind (m_state_within F v5 p1.1) fun v7 => some (!v7)))

def m_slices_IndexFunc___api_Shot_api_Shot_f1_state_Check_1_L6 (F : Nat) (p0 : (List T_api_Shot)) (p1c0 : (Arr (Int × Int) 6)) : Nat → Int → Option ((Int) ⊕ (Int))
  | 0, _ => none
  | n + 1, j7_8 =>
      (cond (decide (j7_8 < (p0.length : Int))) (Option.bind (getI p0 j7_8) fun v14 => (Option.bind (m_state_Check_1 F v14 p1c0) fun v16 => (cond v16
        (some (.inr j7_8)) (m_slices_IndexFunc___api_Shot_api_Shot_f1_state_Check_1_L6 F p0 p1c0 n (IntKind.wrap .i64 (j7_8 + (1 : Int))))))) (some
        (.inl (0 : Int))))

def m_slices_IndexFunc___api_Shot_api_Shot_f1_state_Check_1 (F : Nat) (p0 : (List T_api_Shot)) (p1c0 : (Arr (Int × Int) 6)) : Option (Int) :=
  (Option.bind (m_slices_IndexFunc___api_Shot_api_Shot_f1_state_Check_1_L6 F p0 p1c0 F (0 : Int)) (orE (fun l7_4 => some (-1 : Int)) (fun r7 => some
    r7)))

def m_slices_ContainsFunc___api_Shot_api_Shot_f1_state_Check_1 (F : Nat) (p0 : (List T_api_Shot)) (p1c0 : (Arr (Int × Int) 6)) : Option (Bool) :=
  (Option.bind (m_slices_IndexFunc___api_Shot_api_Shot_f1_state_Check_1 F p0 p1c0) fun v7 => some (decide ((0 : Int) ≤ v7)))

def m_state_Check_L10 (F : Nat) (p0 : T_api_State) : Nat → Bool → Int → Option (Bool)
  | 0, _, _ => none
  | n + 1, j11_5, j11_16 =>
      (cond (decide (j11_16 < (2 : Int))) (cond (j11_16 == (0 : Int)) ((Option.bind (cond j11_5 ((Option.bind (m_state_ofPlayer F p0.Players.1) fun
        v22 => (Option.bind (m_state_within F v22 ([((0 : Int), (61440 : Int)), ((0 : Int), (28672 : Int)), (((-1024) : Int), (1024 : Int)), (((-1024)
        : Int), (1024 : Int)), ((1 : Int), (100 : Int)), ((0 : Int), (30 : Int)), ((0 : Int), (3 : Int))] : List (Int × Int))) fun v24 => some
        (v24)))) (some (false))) fun v25 => m_state_Check_L10 F p0 n v25 (IntKind.wrap .i64 (j11_16 + (1 : Int))))) (cond (j11_16 == (1 : Int))
        ((Option.bind (cond j11_5 ((Option.bind (m_state_ofPlayer F p0.Players.2) fun v22 => (Option.bind (m_state_within F v22 ([((0 : Int), (61440 :
        Int)), ((0 : Int), (28672 : Int)), (((-1024) : Int), (1024 : Int)), (((-1024) : Int), (1024 : Int)), ((1 : Int), (100 : Int)), ((0 : Int), (30
        : Int)), ((0 : Int), (3 : Int))] : List (Int × Int))) fun v24 => some (v24)))) (some (false))) fun v25 => m_state_Check_L10 F p0 n v25
        (IntKind.wrap .i64 (j11_16 + (1 : Int))))) none)) (some j11_5))

def m_state_Check (F : Nat) (p0 : T_api_State) : Option (Int) :=
  (Option.bind (m_state_Check_L10 F p0 F (decide ((p0.Shots.length : Int) ≤ (8 : Int))) (0 : Int)) fun l11_5 => (Option.bind (cond (!l11_5) (some
    (true)) ((Option.bind (m_slices_ContainsFunc___api_Shot_api_Shot_f1_state_Check_1 F p0.Shots (⟨[((0 : Int), (65024 : Int)), ((0 : Int), (32256 :
    Int)), (((-2048) : Int), (2048 : Int)), (((-2048) : Int), (2048 : Int)), ((0 : Int), (1 : Int)), ((1 : Int), (40 : Int))], rfl⟩ : Arr (Int × Int)
    6)) fun v33 => some (v33)))) fun v34 => (cond v34 (some (4 : Int)) (some (0 : Int)))))

def m_codec_put_uint64_L9 (F : Nat) (p1 : Int) (p2 : Int) : Nat → Int → (List Int) → Option ((List Int))
  | 0, _, _ => none
  | n + 1, j10_10, j10_p0_f0 =>
      (cond (decide (j10_10 < p2)) (Option.bind (shrI .u64 p1 (IntKind.wrap .i64 ((8 : Int) * j10_10))) fun v21 => (Option.bind (appI j10_p0_f0
        ([(IntKind.wrap .u8 v21)] : List Int)) fun v24 => m_codec_put_uint64_L9 F p1 p2 n (IntKind.wrap .i64 (j10_10 + (1 : Int))) v24)) (some
        j10_p0_f0))

def m_codec_put_uint64 (F : Nat) (p0 : T_codec_Writer) (p1 : Int) (p2 : Int) : Option (T_codec_Writer) :=
  (Option.bind (m_codec_put_uint64_L9 F p1 p2 F (0 : Int) p0.b) fun l10_p0_f0 => some (T_codec_Writer.mk l10_p0_f0))

def m_codec_Writer_U64 (F : Nat) (p0 : T_codec_Writer) (p1 : Int) : Option (T_codec_Writer) :=
  (Option.bind (m_codec_put_uint64 F p0 p1 (8 : Int)) fun o6_0 => some o6_0)

def m_codec_put_uint32_L9 (F : Nat) (p1 : Int) (p2 : Int) : Nat → Int → (List Int) → Option ((List Int))
  | 0, _, _ => none
  | n + 1, j10_10, j10_p0_f0 =>
      (cond (decide (j10_10 < p2)) (Option.bind (shrI .u64 (IntKind.wrap .u64 p1) (IntKind.wrap .i64 ((8 : Int) * j10_10))) fun v22 => (Option.bind
        (appI j10_p0_f0 ([(IntKind.wrap .u8 v22)] : List Int)) fun v25 => m_codec_put_uint32_L9 F p1 p2 n (IntKind.wrap .i64 (j10_10 + (1 : Int)))
        v25)) (some j10_p0_f0))

def m_codec_put_uint32 (F : Nat) (p0 : T_codec_Writer) (p1 : Int) (p2 : Int) : Option (T_codec_Writer) :=
  (Option.bind (m_codec_put_uint32_L9 F p1 p2 F (0 : Int) p0.b) fun l10_p0_f0 => some (T_codec_Writer.mk l10_p0_f0))

def m_codec_Writer_I32 (F : Nat) (p0 : T_codec_Writer) (p1 : Int) : Option (T_codec_Writer) :=
  (Option.bind (m_codec_put_uint32 F p0 (IntKind.wrap .u32 p1) (4 : Int)) fun o7_0 => some o7_0)

def m_codec_put_uint8_L9 (F : Nat) (p1 : Int) (p2 : Int) : Nat → Int → (List Int) → Option ((List Int))
  | 0, _, _ => none
  | n + 1, j10_10, j10_p0_f0 =>
      (cond (decide (j10_10 < p2)) (Option.bind (shrI .u64 (IntKind.wrap .u64 p1) (IntKind.wrap .i64 ((8 : Int) * j10_10))) fun v22 => (Option.bind
        (appI j10_p0_f0 ([(IntKind.wrap .u8 v22)] : List Int)) fun v25 => m_codec_put_uint8_L9 F p1 p2 n (IntKind.wrap .i64 (j10_10 + (1 : Int)))
        v25)) (some j10_p0_f0))

def m_codec_put_uint8 (F : Nat) (p0 : T_codec_Writer) (p1 : Int) (p2 : Int) : Option (T_codec_Writer) :=
  (Option.bind (m_codec_put_uint8_L9 F p1 p2 F (0 : Int) p0.b) fun l10_p0_f0 => some (T_codec_Writer.mk l10_p0_f0))

def m_codec_Writer_U8 (F : Nat) (p0 : T_codec_Writer) (p1 : Int) : Option (T_codec_Writer) :=
  (Option.bind (m_codec_put_uint8 F p0 p1 (1 : Int)) fun o6_0 => some o6_0)

def m_state_put_L3 (F : Nat) (p1 : (List Int)) : Nat → Int → (List Int) → Option ((List Int))
  | 0, _, _ => none
  | n + 1, j4_8, j4_p0_f0 =>
      (cond (decide (j4_8 < (p1.length : Int))) (Option.bind (getI p1 j4_8) fun v11 => (cond (decide (j4_8 < (4 : Int))) (Option.bind
        (m_codec_Writer_I32 F (T_codec_Writer.mk j4_p0_f0) v11) fun o17_0 => m_state_put_L3 F p1 n (IntKind.wrap .i64 (j4_8 + (1 : Int))) o17_0.b)
        (Option.bind (m_codec_Writer_U8 F (T_codec_Writer.mk j4_p0_f0) (IntKind.wrap .u8 v11)) fun o21_0 => m_state_put_L3 F p1 n (IntKind.wrap .i64
        (j4_8 + (1 : Int))) o21_0.b))) (some j4_p0_f0))

def m_state_put (F : Nat) (p0 : T_codec_Writer) (p1 : (List Int)) : Option (T_codec_Writer) :=
  (Option.bind (m_state_put_L3 F p1 F (0 : Int) p0.b) fun l4_p0_f0 => some (T_codec_Writer.mk l4_p0_f0))

def m_codec_Writer_Var_L2 (F : Nat) : Nat → Int → (List Int) → Option (Int × (List Int))
  | 0, _, _ => none
  | n + 1, j3_1, j3_p0_f0 =>
      (cond (decide ((127 : Int) < j3_1)) (Option.bind (m_codec_Writer_U8 F (T_codec_Writer.mk j3_p0_f0) (bits .or .u8 (IntKind.wrap .u8 j3_1) (128 :
        Int))) fun o10_0 => m_codec_Writer_Var_L2 F n (j3_1 / 2 ^ (min 7 (IntKind.bits .u64))) o10_0.b) (some (j3_1, j3_p0_f0)))

def m_codec_Writer_Var (F : Nat) (p0 : T_codec_Writer) (p1 : Int) : Option (T_codec_Writer) :=
  (Option.bind (m_codec_Writer_Var_L2 F F p1 p0.b) fun (l3_1, l3_p0_f0) => (Option.bind (m_codec_Writer_U8 F (T_codec_Writer.mk l3_p0_f0)
    (IntKind.wrap .u8 l3_1)) fun o16_0 => some o16_0))

def m_codec_put_uint16_L9 (F : Nat) (p1 : Int) (p2 : Int) : Nat → Int → (List Int) → Option ((List Int))
  | 0, _, _ => none
  | n + 1, j10_10, j10_p0_f0 =>
      (cond (decide (j10_10 < p2)) (Option.bind (shrI .u64 (IntKind.wrap .u64 p1) (IntKind.wrap .i64 ((8 : Int) * j10_10))) fun v22 => (Option.bind
        (appI j10_p0_f0 ([(IntKind.wrap .u8 v22)] : List Int)) fun v25 => m_codec_put_uint16_L9 F p1 p2 n (IntKind.wrap .i64 (j10_10 + (1 : Int)))
        v25)) (some j10_p0_f0))

def m_codec_put_uint16 (F : Nat) (p0 : T_codec_Writer) (p1 : Int) (p2 : Int) : Option (T_codec_Writer) :=
  (Option.bind (m_codec_put_uint16_L9 F p1 p2 F (0 : Int) p0.b) fun l10_p0_f0 => some (T_codec_Writer.mk l10_p0_f0))

def m_codec_Writer_U16 (F : Nat) (p0 : T_codec_Writer) (p1 : Int) : Option (T_codec_Writer) :=
  (Option.bind (m_codec_put_uint16 F p0 p1 (2 : Int)) fun o6_0 => some o6_0)

def m_codec_Writer_Bytes (F : Nat) (p0 : T_codec_Writer) : Option ((List UInt8)) :=
  some (toB p0.b)

def m_state_Put_L20 (F : Nat) (p0 : T_api_State) : Nat → Int → (List Int) → Option ((List Int))
  | 0, _, _ => none
  | n + 1, j21_21, j21_n3_f0 =>
      (cond (decide (j21_21 < (2 : Int))) (cond (j21_21 == (0 : Int)) ((Option.bind (m_state_ofPlayer F p0.Players.1) fun v25 => (Option.bind
        (m_state_put F (T_codec_Writer.mk j21_n3_f0) v25) fun o26_0 => m_state_Put_L20 F p0 n (IntKind.wrap .i64 (j21_21 + (1 : Int))) o26_0.b)))
        (cond (j21_21 == (1 : Int)) ((Option.bind (m_state_ofPlayer F p0.Players.2) fun v25 => (Option.bind (m_state_put F (T_codec_Writer.mk
        j21_n3_f0) v25) fun o26_0 => m_state_Put_L20 F p0 n (IntKind.wrap .i64 (j21_21 + (1 : Int))) o26_0.b))) none)) (some j21_n3_f0))

def m_state_Put_L39 (F : Nat) (p0 : T_api_State) : Nat → Int → (List Int) → Option ((List Int))
  | 0, _, _ => none
  | n + 1, j40_36, j40_n3_f0 =>
      (cond (decide (j40_36 < (p0.Shots.length : Int))) (Option.bind (getI p0.Shots j40_36) fun v38 => (Option.bind (m_state_ofShot F v38) fun v41 =>
        (Option.bind (m_state_put F (T_codec_Writer.mk j40_n3_f0) v41) fun o42_0 => m_state_Put_L39 F p0 n (IntKind.wrap .i64 (j40_36 + (1 : Int)))
        o42_0.b))) (some j40_n3_f0))

def m_state_Put_L56 (F : Nat) (p0 : T_api_State) : Nat → Int → (List Int) → Option ((List Int))
  | 0, _, _ => none
  | n + 1, j57_46, j57_n3_f0 =>
      (cond (decide (j57_46 < (2 : Int))) (cond (j57_46 == (0 : Int)) ((Option.bind (m_codec_Writer_U16 F (T_codec_Writer.mk j57_n3_f0) p0.Score.1)
        fun o50_0 => m_state_Put_L56 F p0 n (IntKind.wrap .i64 (j57_46 + (1 : Int))) o50_0.b)) (cond (j57_46 == (1 : Int)) ((Option.bind
        (m_codec_Writer_U16 F (T_codec_Writer.mk j57_n3_f0) p0.Score.2) fun o50_0 => m_state_Put_L56 F p0 n (IntKind.wrap .i64 (j57_46 + (1 : Int)))
        o50_0.b)) none)) (some j57_n3_f0))

def m_state_Put (F : Nat) (p0 : T_api_State) : Option ((List UInt8)) :=
  (Option.bind (m_state_Check F p0) fun v11 => (cond (v11 != (0 : Int)) (some ([] : List UInt8)) (Option.bind (m_codec_Writer_U64 F (T_codec_Writer.mk
    ([] : List Int)) p0.Frame) fun o15_0 => (Option.bind (m_codec_Writer_U64 F o15_0 p0.Seed) fun o18_0 => (Option.bind (m_state_Put_L20 F p0 F (0 :
    Int) o18_0.b) fun l21_n3_f0 => (Option.bind (m_codec_Writer_Var F (T_codec_Writer.mk l21_n3_f0) (IntKind.wrap .u64 (p0.Shots.length : Int))) fun
    o32_0 => (Option.bind (m_state_Put_L39 F p0 F (0 : Int) o32_0.b) fun l40_n3_f0 => (Option.bind (m_state_Put_L56 F p0 F (0 : Int) l40_n3_f0) fun
    l57_n3_f0 => (Option.bind (m_codec_Writer_Bytes F (T_codec_Writer.mk l57_n3_f0)) fun v52 => some v52)))))))))

def m_digest_Of (F : Nat) (p0 : T_api_State) : Option (Int) :=
  (Option.bind (m_state_Put F p0) fun v4 => (Option.bind (m_digest_Join F (14695981039346656037 : Int) v4) fun v5 => some v5))

def m_hindcastlaw10_works (F : Nat) : Option (Bool) :=
  (Option.bind (m_digest_Join F (14695981039346656037 : Int) ([] : List UInt8)) fun v1 => (Option.bind (cond (v1 == (14695981039346656037 : Int))
    ((Option.bind (m_digest_Join F (14695981039346656037 : Int) ([97] : List UInt8)) fun v4 => some ((v4 == (12638187200555641996 : Int))))) (some
    (false))) fun v6 => (Option.bind (cond v6 ((Option.bind (m_digest_Mix F (0 : Int) ((0 : Int), (1 : Int))) fun v9 => some ((v9 == (1099511628211 :
    Int))))) (some (false))) fun v11 => (Option.bind (cond v11 ((Option.bind (m_digest_Of F (T_api_State.mk (0 : Int) (0 : Int) ((T_api_Player.mk (0 :
    Int) (0 : Int) (0 : Int) (0 : Int) (0 : Int) (0 : Int) (0 : Int)), (T_api_Player.mk (0 : Int) (0 : Int) (0 : Int) (0 : Int) (0 : Int) (0 : Int) (0
    : Int))) ([] : List T_api_Shot) ((0 : Int), (0 : Int)))) fun v14 => some ((v14 == (14695981039346656037 : Int))))) (some (false))) fun v16 => some
    v16))))

def m_digest_Chain_L8 (F : Nat) (p0 : (List (Int × Int))) : Nat → Int → Int → Int → Option (Int × Int)
  | 0, _, _, _ => none
  | n + 1, j9_3, j9_10, j9_n7_0 =>
      (cond (decide (j9_10 < (p0.length : Int))) (Option.bind (getI p0 j9_10) fun v12 => (Option.bind (m_digest_going_1 F v12 j9_n7_0) fun (o16_1,
        v16) => m_digest_Chain_L8 F p0 n v16 (IntKind.wrap .i64 (j9_10 + (1 : Int))) o16_1)) (some (j9_3, j9_n7_0)))

def m_digest_Chain (F : Nat) (p0 : (List (Int × Int))) : Option (Int) :=
  (Option.bind (m_digest_going F (14695981039346656037 : Int)) fun v7 => (Option.bind (m_digest_Chain_L8 F p0 F (14695981039346656037 : Int) (0 : Int)
    v7) fun (l9_3, l9_n7_0) => some l9_3))

def m_hindcastlaw10_DigestApart (F : Nat) (p0 : Int) (p1 : Int) (p2 : T_hindcastlaw10_Change) : Option (Bool) :=
  (Option.bind (cond (decide ((1500 : Int) < (p2.S.length : Int))) (some (true)) (some ((decide ((500 : Int) < (p2.L.length : Int)))))) fun v20 =>
    (cond v20 (Option.bind (m_hindcastlaw10_works F) fun v21 => some v21) (Option.bind (m_digest_Join F p0 p2.S) fun v25 => (Option.bind
    (m_digest_Join F p1 p2.S) fun v29 => (cond ((v25 == v29) != (p0 == p1)) (some false) (Option.bind (cond (decide ((0 : Int) < (p2.S.length : Int)))
    (some ((decide ((0 : Int) < p2.Byte)))) (some (false))) fun v43 => (cond v43 (Option.bind (remI (IntKind.wrap .i64 p2.At) ((fromB p2.S).length :
    Int)) fun v52 => (Option.bind (getI (fromB p2.S) v52) fun v57 => (Option.bind (getI (fromB p2.S) v52) fun v62 => (Option.bind (m_digest_Join F p0
    (toB (setI (fromB p2.S) v52 (bits .xor .u8 v57 p2.Byte)))) fun v66 => (Option.bind (m_digest_Join F p0 p2.S) fun v70 => (cond (v66 == v70) (some
    false) (cond ((p2.L.length : Int) == (0 : Int)) (Option.bind (m_hindcastlaw10_works F) fun v76 => some v76) (Option.bind (appI ([] : List (Int ×
    Int)) p2.L) fun v80 => (Option.bind (remI (IntKind.wrap .i64 p2.At) (v80.length : Int)) fun v86 => (Option.bind (getI v80 v86) fun v91 =>
    (Option.bind (m_digest_Chain F (setI v80 v86 p2.Pair)) fun v93 => (Option.bind (m_digest_Chain F p2.L) fun v96 => (Option.bind (getI p2.L v86) fun
    v103 => (Option.bind (cond ((v93 == v96) == ((p2.Pair.1 == v103.1) && (p2.Pair.2 == v103.2))) ((Option.bind (m_hindcastlaw10_works F) fun v108 =>
    some (v108))) (some (false))) fun v109 => some v109)))))))))))))) (cond ((p2.L.length : Int) == (0 : Int)) (Option.bind (m_hindcastlaw10_works F)
    fun v76 => some v76) (Option.bind (appI ([] : List (Int × Int)) p2.L) fun v80 => (Option.bind (remI (IntKind.wrap .i64 p2.At) (v80.length : Int))
    fun v86 => (Option.bind (getI v80 v86) fun v91 => (Option.bind (m_digest_Chain F (setI v80 v86 p2.Pair)) fun v93 => (Option.bind (m_digest_Chain F
    p2.L) fun v96 => (Option.bind (getI p2.L v86) fun v103 => (Option.bind (cond ((v93 == v96) == ((p2.Pair.1 == v103.1) && (p2.Pair.2 == v103.2)))
    ((Option.bind (m_hindcastlaw10_works F) fun v108 => some (v108))) (some (false))) fun v109 => some v109)))))))))))))))

end Go.Proofs.YtgnddjlbhfoioaaDoor
