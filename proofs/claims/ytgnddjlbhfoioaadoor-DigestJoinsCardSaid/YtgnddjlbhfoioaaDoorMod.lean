/-
  Models of the functions of the chapter: what each computes, as a Lean function (none: it is not said). Printed by a program of this claim's own.
-/
import Derived.Test.YtgnddjlbhfoioaaDoorEng2
namespace Go.Proofs.YtgnddjlbhfoioaaDoor
open Go.Proofs.YtgnddjlbhfoioaaDoor.Eng
set_option linter.unusedVariables false
set_option linter.unusedSimpArgs false

structure T_api_Player where
  X : Int
  Y : Int
  VX : Int
  VY : Int
  Health : Int
  Cool : Int
  Face : Int
theorem T_api_Player.eta (x : T_api_Player) : T_api_Player.mk x.X x.Y x.VX x.VY x.Health x.Cool x.Face = x := rfl

def c_T_api_Player (x : T_api_Player) : List Value := [.int .i32 x.X, .int .i32 x.Y, .int .i32 x.VX, .int .i32 x.VY, .int .u8 x.Health, .int .u8 x.Cool, .int .u8 x.Face]
theorem c_T_api_Player_len (x : T_api_Player) : (c_T_api_Player x).length = 7 := rfl

structure T_api_Shot where
  X : Int
  Y : Int
  VX : Int
  VY : Int
  Owner : Int
  Life : Int
theorem T_api_Shot.eta (x : T_api_Shot) : T_api_Shot.mk x.X x.Y x.VX x.VY x.Owner x.Life = x := rfl

def c_T_api_Shot (x : T_api_Shot) : List Value := [.int .i32 x.X, .int .i32 x.Y, .int .i32 x.VX, .int .i32 x.VY, .int .u8 x.Owner, .int .u8 x.Life]
theorem c_T_api_Shot_len (x : T_api_Shot) : (c_T_api_Shot x).length = 6 := rfl

structure T_api_State where
  Frame : Int
  Seed : Int
  Players : (T_api_Player × T_api_Player)
  Shots : (List T_api_Shot)
  Score : (Int × Int)
theorem T_api_State.eta (x : T_api_State) : T_api_State.mk x.Frame x.Seed x.Players x.Shots x.Score = x := rfl

def gl_state_playerBounds : List Value := [.int .i32 (0 : Int), .int .i32 (61440 : Int), .int .i32 (0 : Int), .int .i32 (28672 : Int), .int .i32 ((-1024) : Int), .int .i32 (1024 : Int), .int .i32 ((-1024) : Int), .int .i32 (1024 : Int), .int .i32 (1 : Int), .int .i32 (100 : Int), .int .i32 (0 : Int), .int .i32 (30 : Int), .int .i32 (0 : Int), .int .i32 (3 : Int)]

def gl_state_shotBounds : List Value := [.int .i32 (0 : Int), .int .i32 (65024 : Int), .int .i32 (0 : Int), .int .i32 (32256 : Int), .int .i32 ((-2048) : Int), .int .i32 (2048 : Int), .int .i32 ((-2048) : Int), .int .i32 (2048 : Int), .int .i32 (0 : Int), .int .i32 (1 : Int), .int .i32 (1 : Int), .int .i32 (40 : Int)]

structure T_codec_Writer where
  b : (List Int)
theorem T_codec_Writer.eta (x : T_codec_Writer) : T_codec_Writer.mk x.b = x := rfl

def m_digest_Join_L6 (F : Nat) (p1 : (List UInt8)) : Nat → Int → Int → Option (Int)
  | 0, _, _ => none
  | n + 1, j7_0, j7_8 =>
      (cond (decide (j7_8 < (p1.length : Int))) (Option.bind (getI p1 j7_8) fun v14 => m_digest_Join_L6 F p1 n (IntKind.wrap .u64 ((bits .xor .u64
        j7_0 (IntKind.wrap .u64 (v14.toNat : Int))) * (1099511628211 : Int))) (IntKind.wrap .i64 (j7_8 + (1 : Int)))) (some j7_0))

def m_digest_Join (F : Nat) (p0 : Int) (p1 : (List UInt8)) : Option (Int) :=
  (Option.bind (m_digest_Join_L6 F p1 F p0 (0 : Int)) fun l7_0 => some l7_0)

def m_digest_going (F : Nat) (p0 : Int) : Option (Int) :=
  some p0

def m_digest_going_1_L6 (F : Nat) (p0 : (Int × Int)) : Nat → Int → Int → Option (Int)
  | 0, _, _ => none
  | n + 1, j7_7, j7_p1 =>
      (cond (decide (j7_7 < (2 : Int))) (cond (j7_7 == (0 : Int)) (m_digest_going_1_L6 F p0 n (IntKind.wrap .i64 (j7_7 + (1 : Int))) (IntKind.wrap
        .u64 ((bits .xor .u64 j7_p1 (IntKind.wrap .u64 p0.1)) * (1099511628211 : Int)))) (cond (j7_7 == (1 : Int)) (m_digest_going_1_L6 F p0 n
        (IntKind.wrap .i64 (j7_7 + (1 : Int))) (IntKind.wrap .u64 ((bits .xor .u64 j7_p1 (IntKind.wrap .u64 p0.2)) * (1099511628211 : Int)))) none))
        (some j7_p1))

def m_digest_going_1 (F : Nat) (p0 : (Int × Int)) (p1 : Int) : Option (Int × Int) :=
  (Option.bind (m_digest_going_1_L6 F p0 F (0 : Int) p1) fun l7_p1 => some (l7_p1, l7_p1))

def m_digest_Mix (F : Nat) (p0 : Int) (p1 : (Int × Int)) : Option (Int) :=
  (Option.bind (m_digest_going F p0) fun v6 => (Option.bind (m_digest_going_1 F p1 v6) fun (o8_1, v8) => some v8))

def m_state_ofPlayer (F : Nat) (p0 : T_api_Player) : Option ((List Int)) :=
  some ([p0.X, p0.Y, p0.VX, p0.VY, (IntKind.wrap .i32 p0.Health), (IntKind.wrap .i32 p0.Cool), (IntKind.wrap .i32 p0.Face)] : List Int)

def m_state_within_L6 (F : Nat) (p0 : (List Int)) (p1 : (List (Int × Int))) : Nat → Int → Option ((Bool) ⊕ (Bool))
  | 0, _ => none
  | n + 1, j7_8 =>
      (cond (decide (j7_8 < (p0.length : Int))) (Option.bind (getI p0 j7_8) fun v13 => (Option.bind (getI p1 j7_8) fun v17 => (Option.bind (cond
        (decide (v13 < v17.1)) (some (true)) ((Option.bind (getI p0 j7_8) fun v24 => (Option.bind (getI p1 j7_8) fun v28 => some ((decide (v28.2 <
        v24))))))) fun v32 => (cond v32 (some (.inr false)) (m_state_within_L6 F p0 p1 n (IntKind.wrap .i64 (j7_8 + (1 : Int)))))))) (some (.inl
        false)))

def m_state_within (F : Nat) (p0 : (List Int)) (p1 : (List (Int × Int))) : Option (Bool) :=
  (Option.bind (m_state_within_L6 F p0 p1 F (0 : Int)) (orE (fun l7_4 => some true) (fun r7 => some r7)))

def m_state_ofShot (F : Nat) (p0 : T_api_Shot) : Option ((List Int)) :=
  some ([p0.X, p0.Y, p0.VX, p0.VY, (IntKind.wrap .i32 p0.Owner), (IntKind.wrap .i32 p0.Life)] : List Int)

def m_state_Check_1 (F : Nat) (p0 : T_api_Shot) (p1 : (Arr (Int × Int) 6)) : Option (Bool) :=
  (Option.bind (m_state_ofShot F p0) fun v5 => (Option.bind (m_state_within F v5 p1.1) fun v7 => some (!v7)))

def m_slices_IndexFunc___api_Shot_api_Shot_f1_state_Check_1_L6 (F : Nat) (p0 : (List T_api_Shot)) (p1c0 : (Arr (Int × Int) 6)) : Nat → Int → Option ((Int) ⊕ (Int))
  | 0, _ => none
  | n + 1, j7_8 =>
      (cond (decide (j7_8 < (p0.length : Int))) (Option.bind (getI p0 j7_8) fun v14 => (Option.bind (m_state_Check_1 F v14 p1c0) fun v16 => (cond v16
        (some (.inr j7_8)) (m_slices_IndexFunc___api_Shot_api_Shot_f1_state_Check_1_L6 F p0 p1c0 n (IntKind.wrap .i64 (j7_8 + (1 : Int))))))) (some
        (.inl (0 : Int))))

def m_slices_IndexFunc___api_Shot_api_Shot_f1_state_Check_1 (F : Nat) (p0 : (List T_api_Shot)) (p1c0 : (Arr (Int × Int) 6)) : Option (Int) :=
  (Option.bind (m_slices_IndexFunc___api_Shot_api_Shot_f1_state_Check_1_L6 F p0 p1c0 F (0 : Int)) (orE (fun l7_4 => some (-1 : Int)) (fun r7 => some
    r7)))

def m_slices_ContainsFunc___api_Shot_api_Shot_f1_state_Check_1 (F : Nat) (p0 : (List T_api_Shot)) (p1c0 : (Arr (Int × Int) 6)) : Option (Bool) :=
  (Option.bind (m_slices_IndexFunc___api_Shot_api_Shot_f1_state_Check_1 F p0 p1c0) fun v7 => some (decide ((0 : Int) ≤ v7)))

def m_state_Check_L10 (F : Nat) (p0 : T_api_State) : Nat → Bool → Int → Option (Bool)
  | 0, _, _ => none
  | n + 1, j11_5, j11_16 =>
      (cond (decide (j11_16 < (2 : Int))) (cond (j11_16 == (0 : Int)) ((Option.bind (cond j11_5 ((Option.bind (m_state_ofPlayer F p0.Players.1) fun
        v22 => (Option.bind (m_state_within F v22 ([((0 : Int), (61440 : Int)), ((0 : Int), (28672 : Int)), (((-1024) : Int), (1024 : Int)), (((-1024)
        : Int), (1024 : Int)), ((1 : Int), (100 : Int)), ((0 : Int), (30 : Int)), ((0 : Int), (3 : Int))] : List (Int × Int))) fun v24 => some
        (v24)))) (some (false))) fun v25 => m_state_Check_L10 F p0 n v25 (IntKind.wrap .i64 (j11_16 + (1 : Int))))) (cond (j11_16 == (1 : Int))
        ((Option.bind (cond j11_5 ((Option.bind (m_state_ofPlayer F p0.Players.2) fun v22 => (Option.bind (m_state_within F v22 ([((0 : Int), (61440 :
        Int)), ((0 : Int), (28672 : Int)), (((-1024) : Int), (1024 : Int)), (((-1024) : Int), (1024 : Int)), ((1 : Int), (100 : Int)), ((0 : Int), (30
        : Int)), ((0 : Int), (3 : Int))] : List (Int × Int))) fun v24 => some (v24)))) (some (false))) fun v25 => m_state_Check_L10 F p0 n v25
        (IntKind.wrap .i64 (j11_16 + (1 : Int))))) none)) (some j11_5))

def m_state_Check (F : Nat) (p0 : T_api_State) : Option (Int) :=
  (Option.bind (m_state_Check_L10 F p0 F (decide ((p0.Shots.length : Int) ≤ (8 : Int))) (0 : Int)) fun l11_5 => (Option.bind (cond (!l11_5) (some
    (true)) ((Option.bind (m_slices_ContainsFunc___api_Shot_api_Shot_f1_state_Check_1 F p0.Shots (⟨[((0 : Int), (65024 : Int)), ((0 : Int), (32256 :
    Int)), (((-2048) : Int), (2048 : Int)), (((-2048) : Int), (2048 : Int)), ((0 : Int), (1 : Int)), ((1 : Int), (40 : Int))], rfl⟩ : Arr (Int × Int)
    6)) fun v33 => some (v33)))) fun v34 => (cond v34 (some (4 : Int)) (some (0 : Int)))))

def m_codec_put_uint64_L9 (F : Nat) (p1 : Int) (p2 : Int) : Nat → Int → (List Int) → Option ((List Int))
  | 0, _, _ => none
  | n + 1, j10_10, j10_p0_f0 =>
      (cond (decide (j10_10 < p2)) (Option.bind (shrI .u64 p1 (IntKind.wrap .i64 ((8 : Int) * j10_10))) fun v21 => (Option.bind (appI j10_p0_f0
        ([(IntKind.wrap .u8 v21)] : List Int)) fun v24 => m_codec_put_uint64_L9 F p1 p2 n (IntKind.wrap .i64 (j10_10 + (1 : Int))) v24)) (some
        j10_p0_f0))

def m_codec_put_uint64 (F : Nat) (p0 : T_codec_Writer) (p1 : Int) (p2 : Int) : Option (T_codec_Writer) :=
  (Option.bind (m_codec_put_uint64_L9 F p1 p2 F (0 : Int) p0.b) fun l10_p0_f0 => some (T_codec_Writer.mk l10_p0_f0))

def m_codec_Writer_U64 (F : Nat) (p0 : T_codec_Writer) (p1 : Int) : Option (T_codec_Writer) :=
  (Option.bind (m_codec_put_uint64 F p0 p1 (8 : Int)) fun o6_0 => some o6_0)

def m_codec_put_uint32_L9 (F : Nat) (p1 : Int) (p2 : Int) : Nat → Int → (List Int) → Option ((List Int))
  | 0, _, _ => none
  | n + 1, j10_10, j10_p0_f0 =>
      (cond (decide (j10_10 < p2)) (Option.bind (shrI .u64 (IntKind.wrap .u64 p1) (IntKind.wrap .i64 ((8 : Int) * j10_10))) fun v22 => (Option.bind
        (appI j10_p0_f0 ([(IntKind.wrap .u8 v22)] : List Int)) fun v25 => m_codec_put_uint32_L9 F p1 p2 n (IntKind.wrap .i64 (j10_10 + (1 : Int)))
        v25)) (some j10_p0_f0))

def m_codec_put_uint32 (F : Nat) (p0 : T_codec_Writer) (p1 : Int) (p2 : Int) : Option (T_codec_Writer) :=
  (Option.bind (m_codec_put_uint32_L9 F p1 p2 F (0 : Int) p0.b) fun l10_p0_f0 => some (T_codec_Writer.mk l10_p0_f0))

def m_codec_Writer_I32 (F : Nat) (p0 : T_codec_Writer) (p1 : Int) : Option (T_codec_Writer) :=
  (Option.bind (m_codec_put_uint32 F p0 (IntKind.wrap .u32 p1) (4 : Int)) fun o7_0 => some o7_0)

def m_codec_put_uint8_L9 (F : Nat) (p1 : Int) (p2 : Int) : Nat → Int → (List Int) → Option ((List Int))
  | 0, _, _ => none
  | n + 1, j10_10, j10_p0_f0 =>
      (cond (decide (j10_10 < p2)) (Option.bind (shrI .u64 (IntKind.wrap .u64 p1) (IntKind.wrap .i64 ((8 : Int) * j10_10))) fun v22 => (Option.bind
        (appI j10_p0_f0 ([(IntKind.wrap .u8 v22)] : List Int)) fun v25 => m_codec_put_uint8_L9 F p1 p2 n (IntKind.wrap .i64 (j10_10 + (1 : Int)))
        v25)) (some j10_p0_f0))

def m_codec_put_uint8 (F : Nat) (p0 : T_codec_Writer) (p1 : Int) (p2 : Int) : Option (T_codec_Writer) :=
  (Option.bind (m_codec_put_uint8_L9 F p1 p2 F (0 : Int) p0.b) fun l10_p0_f0 => some (T_codec_Writer.mk l10_p0_f0))

def m_codec_Writer_U8 (F : Nat) (p0 : T_codec_Writer) (p1 : Int) : Option (T_codec_Writer) :=
  (Option.bind (m_codec_put_uint8 F p0 p1 (1 : Int)) fun o6_0 => some o6_0)

def m_state_put_L3 (F : Nat) (p1 : (List Int)) : Nat → Int → (List Int) → Option ((List Int))
  | 0, _, _ => none
  | n + 1, j4_8, j4_p0_f0 =>
      (cond (decide (j4_8 < (p1.length : Int))) (Option.bind (getI p1 j4_8) fun v11 => (cond (decide (j4_8 < (4 : Int))) (Option.bind
        (m_codec_Writer_I32 F (T_codec_Writer.mk j4_p0_f0) v11) fun o17_0 => m_state_put_L3 F p1 n (IntKind.wrap .i64 (j4_8 + (1 : Int))) o17_0.b)
        (Option.bind (m_codec_Writer_U8 F (T_codec_Writer.mk j4_p0_f0) (IntKind.wrap .u8 v11)) fun o21_0 => m_state_put_L3 F p1 n (IntKind.wrap .i64
        (j4_8 + (1 : Int))) o21_0.b))) (some j4_p0_f0))

def m_state_put (F : Nat) (p0 : T_codec_Writer) (p1 : (List Int)) : Option (T_codec_Writer) :=
  (Option.bind (m_state_put_L3 F p1 F (0 : Int) p0.b) fun l4_p0_f0 => some (T_codec_Writer.mk l4_p0_f0))

def m_codec_Writer_Var_L2 (F : Nat) : Nat → Int → (List Int) → Option (Int × (List Int))
  | 0, _, _ => none
  | n + 1, j3_1, j3_p0_f0 =>
      (cond (decide ((127 : Int) < j3_1)) (Option.bind (m_codec_Writer_U8 F (T_codec_Writer.mk j3_p0_f0) (bits .or .u8 (IntKind.wrap .u8 j3_1) (128 :
        Int))) fun o10_0 => m_codec_Writer_Var_L2 F n (j3_1 / 2 ^ (min 7 (IntKind.bits .u64))) o10_0.b) (some (j3_1, j3_p0_f0)))

def m_codec_Writer_Var (F : Nat) (p0 : T_codec_Writer) (p1 : Int) : Option (T_codec_Writer) :=
  (Option.bind (m_codec_Writer_Var_L2 F F p1 p0.b) fun (l3_1, l3_p0_f0) => (Option.bind (m_codec_Writer_U8 F (T_codec_Writer.mk l3_p0_f0)
    (IntKind.wrap .u8 l3_1)) fun o16_0 => some o16_0))

def m_codec_put_uint16_L9 (F : Nat) (p1 : Int) (p2 : Int) : Nat → Int → (List Int) → Option ((List Int))
  | 0, _, _ => none
  | n + 1, j10_10, j10_p0_f0 =>
      (cond (decide (j10_10 < p2)) (Option.bind (shrI .u64 (IntKind.wrap .u64 p1) (IntKind.wrap .i64 ((8 : Int) * j10_10))) fun v22 => (Option.bind
        (appI j10_p0_f0 ([(IntKind.wrap .u8 v22)] : List Int)) fun v25 => m_codec_put_uint16_L9 F p1 p2 n (IntKind.wrap .i64 (j10_10 + (1 : Int)))
        v25)) (some j10_p0_f0))

def m_codec_put_uint16 (F : Nat) (p0 : T_codec_Writer) (p1 : Int) (p2 : Int) : Option (T_codec_Writer) :=
  (Option.bind (m_codec_put_uint16_L9 F p1 p2 F (0 : Int) p0.b) fun l10_p0_f0 => some (T_codec_Writer.mk l10_p0_f0))

def m_codec_Writer_U16 (F : Nat) (p0 : T_codec_Writer) (p1 : Int) : Option (T_codec_Writer) :=
  (Option.bind (m_codec_put_uint16 F p0 p1 (2 : Int)) fun o6_0 => some o6_0)

def m_codec_Writer_Bytes (F : Nat) (p0 : T_codec_Writer) : Option ((List UInt8)) :=
  some (toB p0.b)

def m_state_Put_L20 (F : Nat) (p0 : T_api_State) : Nat → Int → (List Int) → Option ((List Int))
  | 0, _, _ => none
  | n + 1, j21_21, j21_n3_f0 =>
      (cond (decide (j21_21 < (2 : Int))) (cond (j21_21 == (0 : Int)) ((Option.bind (m_state_ofPlayer F p0.Players.1) fun v25 => (Option.bind
        (m_state_put F (T_codec_Writer.mk j21_n3_f0) v25) fun o26_0 => m_state_Put_L20 F p0 n (IntKind.wrap .i64 (j21_21 + (1 : Int))) o26_0.b)))
        (cond (j21_21 == (1 : Int)) ((Option.bind (m_state_ofPlayer F p0.Players.2) fun v25 => (Option.bind (m_state_put F (T_codec_Writer.mk
        j21_n3_f0) v25) fun o26_0 => m_state_Put_L20 F p0 n (IntKind.wrap .i64 (j21_21 + (1 : Int))) o26_0.b))) none)) (some j21_n3_f0))

def m_state_Put_L39 (F : Nat) (p0 : T_api_State) : Nat → Int → (List Int) → Option ((List Int))
  | 0, _, _ => none
  | n + 1, j40_36, j40_n3_f0 =>
      (cond (decide (j40_36 < (p0.Shots.length : Int))) (Option.bind (getI p0.Shots j40_36) fun v38 => (Option.bind (m_state_ofShot F v38) fun v41 =>
        (Option.bind (m_state_put F (T_codec_Writer.mk j40_n3_f0) v41) fun o42_0 => m_state_Put_L39 F p0 n (IntKind.wrap .i64 (j40_36 + (1 : Int)))
        o42_0.b))) (some j40_n3_f0))

def m_state_Put_L56 (F : Nat) (p0 : T_api_State) : Nat → Int → (List Int) → Option ((List Int))
  | 0, _, _ => none
  | n + 1, j57_46, j57_n3_f0 =>
      (cond (decide (j57_46 < (2 : Int))) (cond (j57_46 == (0 : Int)) ((Option.bind (m_codec_Writer_U16 F (T_codec_Writer.mk j57_n3_f0) p0.Score.1)
        fun o50_0 => m_state_Put_L56 F p0 n (IntKind.wrap .i64 (j57_46 + (1 : Int))) o50_0.b)) (cond (j57_46 == (1 : Int)) ((Option.bind
        (m_codec_Writer_U16 F (T_codec_Writer.mk j57_n3_f0) p0.Score.2) fun o50_0 => m_state_Put_L56 F p0 n (IntKind.wrap .i64 (j57_46 + (1 : Int)))
        o50_0.b)) none)) (some j57_n3_f0))

def m_state_Put (F : Nat) (p0 : T_api_State) : Option ((List UInt8)) :=
  (Option.bind (m_state_Check F p0) fun v11 => (cond (v11 != (0 : Int)) (some ([] : List UInt8)) (Option.bind (m_codec_Writer_U64 F (T_codec_Writer.mk
    ([] : List Int)) p0.Frame) fun o15_0 => (Option.bind (m_codec_Writer_U64 F o15_0 p0.Seed) fun o18_0 => (Option.bind (m_state_Put_L20 F p0 F (0 :
    Int) o18_0.b) fun l21_n3_f0 => (Option.bind (m_codec_Writer_Var F (T_codec_Writer.mk l21_n3_f0) (IntKind.wrap .u64 (p0.Shots.length : Int))) fun
    o32_0 => (Option.bind (m_state_Put_L39 F p0 F (0 : Int) o32_0.b) fun l40_n3_f0 => (Option.bind (m_state_Put_L56 F p0 F (0 : Int) l40_n3_f0) fun
    l57_n3_f0 => (Option.bind (m_codec_Writer_Bytes F (T_codec_Writer.mk l57_n3_f0)) fun v52 => some v52)))))))))

def m_digest_Of (F : Nat) (p0 : T_api_State) : Option (Int) :=
  (Option.bind (m_state_Put F p0) fun v4 => (Option.bind (m_digest_Join F (14695981039346656037 : Int) v4) fun v5 => some v5))

def m_hindcastlaw10_works (F : Nat) : Option (Bool) :=
  (Option.bind (m_digest_Join F (14695981039346656037 : Int) ([] : List UInt8)) fun v1 => (Option.bind (cond (v1 == (14695981039346656037 : Int))
    ((Option.bind (m_digest_Join F (14695981039346656037 : Int) ([97] : List UInt8)) fun v4 => some ((v4 == (12638187200555641996 : Int))))) (some
    (false))) fun v6 => (Option.bind (cond v6 ((Option.bind (m_digest_Mix F (0 : Int) ((0 : Int), (1 : Int))) fun v9 => some ((v9 == (1099511628211 :
    Int))))) (some (false))) fun v11 => (Option.bind (cond v11 ((Option.bind (m_digest_Of F (T_api_State.mk (0 : Int) (0 : Int) ((T_api_Player.mk (0 :
    Int) (0 : Int) (0 : Int) (0 : Int) (0 : Int) (0 : Int) (0 : Int)), (T_api_Player.mk (0 : Int) (0 : Int) (0 : Int) (0 : Int) (0 : Int) (0 : Int) (0
    : Int))) ([] : List T_api_Shot) ((0 : Int), (0 : Int)))) fun v14 => some ((v14 == (14695981039346656037 : Int))))) (some (false))) fun v16 => some
    v16))))

def m_hindcastref10_step (F : Nat) (p0 : Int) (p1 : Int) : Option (Int) :=
  some (IntKind.wrap .u64 ((bits .xor .u64 p0 (IntKind.wrap .u64 p1)) * (1099511628211 : Int)))

def m_hindcastref10_Join_L6 (F : Nat) (p1 : (List UInt8)) : Nat → Int → Int → Option (Int)
  | 0, _, _ => none
  | n + 1, j7_0, j7_5 =>
      (cond (decide (j7_5 < (p1.length : Int))) (Option.bind (getI p1 j7_5) fun v15 => (Option.bind (m_hindcastref10_step F j7_0 (v15.toNat : Int))
        fun v16 => m_hindcastref10_Join_L6 F p1 n v16 (IntKind.wrap .i64 (j7_5 + (1 : Int))))) (some j7_0))

def m_hindcastref10_Join (F : Nat) (p0 : Int) (p1 : (List UInt8)) : Option (Int) :=
  (Option.bind (m_hindcastref10_Join_L6 F p1 F p0 (0 : Int)) fun l7_0 => some l7_0)

def m_hindcastref08_in (F : Nat) (p0 : Int) (p1 : Int) (p2 : Int) : Option (Bool) :=
  (Option.bind (cond (decide (p1 ≤ p0)) (some ((decide (p0 ≤ p2)))) (some (false))) fun v14 => some v14)

def m_hindcastref08_Player (F : Nat) (p0 : T_api_Player) : Option (Bool) :=
  (Option.bind (m_hindcastref08_in F p0.X (0 : Int) (61440 : Int)) fun v5 => (Option.bind (cond v5 ((Option.bind (m_hindcastref08_in F p0.Y (0 : Int)
    (28672 : Int)) fun v9 => some (v9))) (some (false))) fun v10 => (Option.bind (cond v10 ((Option.bind (m_hindcastref08_in F p0.VX (-1024 : Int)
    (1024 : Int)) fun v14 => some (v14))) (some (false))) fun v15 => (Option.bind (cond v15 ((Option.bind (m_hindcastref08_in F p0.VY (-1024 : Int)
    (1024 : Int)) fun v19 => some (v19))) (some (false))) fun v20 => (Option.bind (cond v20 (some ((decide ((1 : Int) ≤ p0.Health)))) (some (false)))
    fun v25 => (Option.bind (cond v25 (some ((decide (p0.Health ≤ (100 : Int))))) (some (false))) fun v30 => (Option.bind (cond v30 (some ((decide
    (p0.Cool ≤ (30 : Int))))) (some (false))) fun v35 => (Option.bind (cond v35 (some ((decide (p0.Face ≤ (3 : Int))))) (some (false))) fun v40 =>
    some v40))))))))

def m_hindcastref08_Shot (F : Nat) (p0 : T_api_Shot) : Option (Bool) :=
  (Option.bind (m_hindcastref08_in F p0.X (0 : Int) (65024 : Int)) fun v5 => (Option.bind (cond v5 ((Option.bind (m_hindcastref08_in F p0.Y (0 : Int)
    (32256 : Int)) fun v9 => some (v9))) (some (false))) fun v10 => (Option.bind (cond v10 ((Option.bind (m_hindcastref08_in F p0.VX (-2048 : Int)
    (2048 : Int)) fun v14 => some (v14))) (some (false))) fun v15 => (Option.bind (cond v15 ((Option.bind (m_hindcastref08_in F p0.VY (-2048 : Int)
    (2048 : Int)) fun v19 => some (v19))) (some (false))) fun v20 => (Option.bind (cond v20 (some ((decide (p0.Owner ≤ (1 : Int))))) (some (false)))
    fun v25 => (Option.bind (cond v25 (some ((decide ((1 : Int) ≤ p0.Life)))) (some (false))) fun v30 => (Option.bind (cond v30 (some ((decide
    (p0.Life ≤ (40 : Int))))) (some (false))) fun v35 => some v35)))))))

def m_hindcastref08_Check_L14 (F : Nat) (p0 : T_api_State) : Nat → Int → Option ((Int) ⊕ (Int))
  | 0, _ => none
  | n + 1, j15_3 =>
      (cond (decide (j15_3 < (p0.Shots.length : Int))) (Option.bind (getI p0.Shots j15_3) fun v32 => (Option.bind (m_hindcastref08_Shot F v32) fun v34
        => (cond (!v34) (some (.inr (4 : Int))) (m_hindcastref08_Check_L14 F p0 n (IntKind.wrap .i64 (j15_3 + (1 : Int))))))) (some (.inl (0 : Int))))

def m_hindcastref08_Check (F : Nat) (p0 : T_api_State) : Option (Int) :=
  (Option.bind (cond (decide ((8 : Int) < (p0.Shots.length : Int))) (some (true)) ((Option.bind (m_hindcastref08_Player F p0.Players.1) fun v12 =>
    some ((!v12))))) fun v14 => (Option.bind (cond v14 (some (true)) ((Option.bind (m_hindcastref08_Player F p0.Players.2) fun v19 => some ((!v19)))))
    fun v21 => (cond v21 (some (4 : Int)) (Option.bind (m_hindcastref08_Check_L14 F p0 F (0 : Int)) (orE (fun l15_2 => some (0 : Int)) (fun r15 =>
    some r15))))))

def m_hindcastref02_Number_L8 (F : Nat) (p1 : Int) : Nat → Int → (List Int) → Int → Option ((List Int))
  | 0, _, _, _ => none
  | n + 1, j9_0, j9_5, j9_6 =>
      (cond (decide (j9_6 < p1)) (Option.bind (appI j9_5 ([(IntKind.wrap .u8 (Int.tmod j9_0 256))] : List Int)) fun v17 => m_hindcastref02_Number_L8 F
        p1 n (IntKind.wrap .u64 (Int.tdiv j9_0 256)) v17 (IntKind.wrap .i64 (j9_6 + (1 : Int)))) (some j9_5))

def m_hindcastref02_Number (F : Nat) (p0 : Int) (p1 : Int) : Option ((List UInt8)) :=
  (Option.bind (m_hindcastref02_Number_L8 F p1 F p0 ([] : List Int) (0 : Int)) fun l9_5 => some (toB l9_5))

def m_hindcastref08_signed (F : Nat) (p0 : Int) : Option ((List UInt8)) :=
  (Option.bind (m_hindcastref02_Number F (IntKind.wrap .u64 (IntKind.wrap .u32 p0)) (4 : Int)) fun v6 => some v6)

def m_hindcastref02_Var_L6 (F : Nat) : Nat → Int → (List Int) → Option (Int × (List Int))
  | 0, _, _ => none
  | n + 1, j7_0, j7_3 =>
      (cond (decide ((128 : Int) ≤ j7_0)) (Option.bind (appI j7_3 ([(IntKind.wrap .u8 (IntKind.wrap .u64 ((Int.tmod j7_0 128) + (128 : Int))))] : List
        Int)) fun v12 => m_hindcastref02_Var_L6 F n (IntKind.wrap .u64 (Int.tdiv j7_0 128)) v12) (some (j7_0, j7_3)))

def m_hindcastref02_Var (F : Nat) (p0 : Int) : Option ((List UInt8)) :=
  (Option.bind (m_hindcastref02_Var_L6 F F p0 ([] : List Int)) fun (l7_0, l7_3) => (Option.bind (appI l7_3 ([(IntKind.wrap .u8 l7_0)] : List Int)) fun
    v19 => some (toB v19)))

def m_hindcastref08_Put_L16 (F : Nat) (p0 : T_api_State) : Nat → (List UInt8) → Int → Option ((List UInt8))
  | 0, _, _ => none
  | n + 1, j17_3, j17_4 =>
      (cond (decide (j17_4 < (2 : Int))) (cond (j17_4 == (0 : Int)) ((Option.bind (m_hindcastref08_signed F p0.Players.1.X) fun v29 => (Option.bind
        (appI j17_3 v29) fun v30 => (Option.bind (m_hindcastref08_signed F p0.Players.1.Y) fun v33 => (Option.bind (appI v30 v33) fun v34 =>
        (Option.bind (m_hindcastref08_signed F p0.Players.1.VX) fun v37 => (Option.bind (appI v34 v37) fun v38 => (Option.bind (m_hindcastref08_signed
        F p0.Players.1.VY) fun v41 => (Option.bind (appI v38 v41) fun v42 => (Option.bind (appI v42 (toB ([p0.Players.1.Health, p0.Players.1.Cool,
        p0.Players.1.Face] : List Int))) fun v51 => m_hindcastref08_Put_L16 F p0 n v51 (IntKind.wrap .i64 (j17_4 + (1 : Int))))))))))))) (cond (j17_4
        == (1 : Int)) ((Option.bind (m_hindcastref08_signed F p0.Players.2.X) fun v29 => (Option.bind (appI j17_3 v29) fun v30 => (Option.bind
        (m_hindcastref08_signed F p0.Players.2.Y) fun v33 => (Option.bind (appI v30 v33) fun v34 => (Option.bind (m_hindcastref08_signed F
        p0.Players.2.VX) fun v37 => (Option.bind (appI v34 v37) fun v38 => (Option.bind (m_hindcastref08_signed F p0.Players.2.VY) fun v41 =>
        (Option.bind (appI v38 v41) fun v42 => (Option.bind (appI v42 (toB ([p0.Players.2.Health, p0.Players.2.Cool, p0.Players.2.Face] : List Int)))
        fun v51 => m_hindcastref08_Put_L16 F p0 n v51 (IntKind.wrap .i64 (j17_4 + (1 : Int))))))))))))) none)) (some j17_3))

def m_hindcastref08_Put_L35 (F : Nat) (p0 : T_api_State) : Nat → (List UInt8) → Int → Option ((List UInt8))
  | 0, _, _ => none
  | n + 1, j36_3, j36_6 =>
      (cond (decide (j36_6 < (p0.Shots.length : Int))) (Option.bind (getI p0.Shots j36_6) fun v69 => (Option.bind (m_hindcastref08_signed F v69.X) fun
        v74 => (Option.bind (appI j36_3 v74) fun v75 => (Option.bind (m_hindcastref08_signed F v69.Y) fun v78 => (Option.bind (appI v75 v78) fun v79
        => (Option.bind (m_hindcastref08_signed F v69.VX) fun v82 => (Option.bind (appI v79 v82) fun v83 => (Option.bind (m_hindcastref08_signed F
        v69.VY) fun v86 => (Option.bind (appI v83 v86) fun v87 => (Option.bind (appI v87 (toB ([v69.Owner, v69.Life] : List Int))) fun v94 =>
        m_hindcastref08_Put_L35 F p0 n v94 (IntKind.wrap .i64 (j36_6 + (1 : Int))))))))))))) (some j36_3))

def m_hindcastref08_Put (F : Nat) (p0 : T_api_State) : Option ((List UInt8)) :=
  (Option.bind (m_hindcastref08_Check F p0) fun v9 => (cond (v9 != (0 : Int)) (some ([] : List UInt8)) (Option.bind (m_hindcastref02_Number F p0.Frame
    (8 : Int)) fun v13 => (Option.bind (m_hindcastref02_Number F p0.Seed (8 : Int)) fun v16 => (Option.bind (appI v13 v16) fun v17 => (Option.bind
    (m_hindcastref08_Put_L16 F p0 F v17 (0 : Int)) fun l17_3 => (Option.bind (m_hindcastref02_Var F (IntKind.wrap .u64 (p0.Shots.length : Int))) fun
    v57 => (Option.bind (appI l17_3 v57) fun v58 => (Option.bind (m_hindcastref08_Put_L35 F p0 F v58 (0 : Int)) fun l36_3 => (Option.bind
    (m_hindcastref02_Number F (IntKind.wrap .u64 p0.Score.1) (2 : Int)) fun v100 => (Option.bind (appI l36_3 v100) fun v101 => (Option.bind
    (m_hindcastref02_Number F (IntKind.wrap .u64 p0.Score.2) (2 : Int)) fun v106 => (Option.bind (appI v101 v106) fun v107 => some v107)))))))))))))

def m_hindcastref10_Of (F : Nat) (p0 : T_api_State) : Option (Int) :=
  (Option.bind (m_hindcastref08_Put F p0) fun v4 => (Option.bind (m_hindcastref10_Join F (14695981039346656037 : Int) v4) fun v5 => some v5))

def m_hindcastlaw10_DigestJoins (F : Nat) (p0 : Int) (p1 : (List UInt8)) (p2 : T_api_State) : Option (Bool) :=
  (Option.bind (cond (decide ((3000 : Int) < (p1.length : Int))) (some (true)) (some ((decide ((100 : Int) < (p2.Shots.length : Int)))))) fun v15 =>
    (cond v15 (Option.bind (m_hindcastlaw10_works F) fun v16 => some v16) (Option.bind (m_digest_Join F p0 p1) fun v19 => (Option.bind
    (m_hindcastref10_Join F p0 p1) fun v22 => (Option.bind (cond (v19 == v22) ((Option.bind (m_digest_Of F p2) fun v26 => (Option.bind
    (m_hindcastref10_Of F p2) fun v28 => some ((v26 == v28))))) (some (false))) fun v30 => (Option.bind (cond v30 ((Option.bind (m_hindcastlaw10_works
    F) fun v32 => some (v32))) (some (false))) fun v33 => some v33))))))

end Go.Proofs.YtgnddjlbhfoioaaDoor
