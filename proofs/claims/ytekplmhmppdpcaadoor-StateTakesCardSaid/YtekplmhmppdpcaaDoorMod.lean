/-
  Models of the functions of the chapter: what each computes, as a Lean function (none: it is not said). Printed by a program of this claim's own.
-/
import Derived.Test.YtekplmhmppdpcaaDoorEng2
namespace Go.Proofs.YtekplmhmppdpcaaDoor
open Go.Proofs.YtekplmhmppdpcaaDoor.Eng
set_option linter.unusedVariables false
set_option linter.unusedSimpArgs false

structure T_api_Shot where
  X : Int
  Y : Int
  VX : Int
  VY : Int
  Owner : Int
  Life : Int
theorem T_api_Shot.eta (x : T_api_Shot) : T_api_Shot.mk x.X x.Y x.VX x.VY x.Owner x.Life = x := rfl

def c_T_api_Shot (x : T_api_Shot) : List Value := [.int .i32 x.X, .int .i32 x.Y, .int .i32 x.VX, .int .i32 x.VY, .int .u8 x.Owner, .int .u8 x.Life]
theorem c_T_api_Shot_len (x : T_api_Shot) : (c_T_api_Shot x).length = 6 := rfl

structure T_api_Player where
  X : Int
  Y : Int
  VX : Int
  VY : Int
  Health : Int
  Cool : Int
  Face : Int
theorem T_api_Player.eta (x : T_api_Player) : T_api_Player.mk x.X x.Y x.VX x.VY x.Health x.Cool x.Face = x := rfl

def c_T_api_Player (x : T_api_Player) : List Value := [.int .i32 x.X, .int .i32 x.Y, .int .i32 x.VX, .int .i32 x.VY, .int .u8 x.Health, .int .u8 x.Cool, .int .u8 x.Face]
theorem c_T_api_Player_len (x : T_api_Player) : (c_T_api_Player x).length = 7 := rfl

structure T_api_State where
  Frame : Int
  Seed : Int
  Players : (T_api_Player × T_api_Player)
  Shots : (List T_api_Shot)
  Score : (Int × Int)
theorem T_api_State.eta (x : T_api_State) : T_api_State.mk x.Frame x.Seed x.Players x.Shots x.Score = x := rfl

def gl_state_playerBounds : List Value := [.int .i32 (0 : Int), .int .i32 (61440 : Int), .int .i32 (0 : Int), .int .i32 (28672 : Int), .int .i32 ((-1024) : Int), .int .i32 (1024 : Int), .int .i32 ((-1024) : Int), .int .i32 (1024 : Int), .int .i32 (1 : Int), .int .i32 (100 : Int), .int .i32 (0 : Int), .int .i32 (30 : Int), .int .i32 (0 : Int), .int .i32 (3 : Int)]

def gl_state_shotBounds : List Value := [.int .i32 (0 : Int), .int .i32 (65024 : Int), .int .i32 (0 : Int), .int .i32 (32256 : Int), .int .i32 ((-2048) : Int), .int .i32 (2048 : Int), .int .i32 ((-2048) : Int), .int .i32 (2048 : Int), .int .i32 (0 : Int), .int .i32 (1 : Int), .int .i32 (1 : Int), .int .i32 (40 : Int)]

structure T_codec_Writer where
  b : (List Int)
theorem T_codec_Writer.eta (x : T_codec_Writer) : T_codec_Writer.mk x.b = x := rfl

structure T_codec_left where
  s : (List UInt8)
  e : Int
theorem T_codec_left.eta (x : T_codec_left) : T_codec_left.mk x.s x.e = x := rfl

def c_T_codec_left (x : T_codec_left) : List Value := [.string ⟨x.s.toArray⟩, .int .i64 x.e]
theorem c_T_codec_left_len (x : T_codec_left) : (c_T_codec_left x).length = 2 := rfl

structure T_codec_Reader where
  left : T_codec_left
theorem T_codec_Reader.eta (x : T_codec_Reader) : T_codec_Reader.mk x.left = x := rfl

def c_T_codec_Reader (x : T_codec_Reader) : List Value := [.string ⟨x.left.s.toArray⟩, .int .i64 x.left.e]
theorem c_T_codec_Reader_len (x : T_codec_Reader) : (c_T_codec_Reader x).length = 2 := rfl

structure T_hindcastref02_Reader where
  S : (List UInt8)
  At : Int
  E : Int
theorem T_hindcastref02_Reader.eta (x : T_hindcastref02_Reader) : T_hindcastref02_Reader.mk x.S x.At x.E = x := rfl

def c_T_hindcastref02_Reader (x : T_hindcastref02_Reader) : List Value := [.string ⟨x.S.toArray⟩, .int .i64 x.At, .int .i64 x.E]
theorem c_T_hindcastref02_Reader_len (x : T_hindcastref02_Reader) : (c_T_hindcastref02_Reader x).length = 3 := rfl

def m_state_Start_L8 (F : Nat) : Nat → Int → (T_api_Player × T_api_Player) → Option ((T_api_Player × T_api_Player))
  | 0, _, _ => none
  | n + 1, j9_7, j9_n3_f2 =>
      (cond (decide (j9_7 < (2 : Int))) (cond (j9_7 == (0 : Int)) (m_state_Start_L8 F n (IntKind.wrap .i64 (j9_7 + (1 : Int))) ((T_api_Player.mk
        (IntKind.wrap .i32 ((8192 : Int) + (IntKind.wrap .i32 ((IntKind.wrap .i32 j9_7) * (45056 : Int))))) (14336 : Int) (0 : Int) (0 : Int) (100 :
        Int) (0 : Int) (IntKind.wrap .u8 j9_7)), j9_n3_f2.2)) (cond (j9_7 == (1 : Int)) (m_state_Start_L8 F n (IntKind.wrap .i64 (j9_7 + (1 : Int)))
        (j9_n3_f2.1, (T_api_Player.mk (IntKind.wrap .i32 ((8192 : Int) + (IntKind.wrap .i32 ((IntKind.wrap .i32 j9_7) * (45056 : Int))))) (14336 :
        Int) (0 : Int) (0 : Int) (100 : Int) (0 : Int) (IntKind.wrap .u8 j9_7)))) none)) (some j9_n3_f2))

def m_state_Start (F : Nat) (p0 : Int) : Option (T_api_State) :=
  (Option.bind (m_state_Start_L8 F F (0 : Int) ((T_api_Player.mk (0 : Int) (0 : Int) (0 : Int) (0 : Int) (0 : Int) (0 : Int) (0 : Int)),
    (T_api_Player.mk (0 : Int) (0 : Int) (0 : Int) (0 : Int) (0 : Int) (0 : Int) (0 : Int)))) fun l9_n3_f2 => some (T_api_State.mk (0 : Int) p0
    l9_n3_f2 ([] : List T_api_Shot) ((0 : Int), (0 : Int))))

def m_hindcastlaw08_first (F : Nat) : Option (T_api_State) :=
  (Option.bind (m_state_Start F (1 : Int)) fun v2 => some (T_api_State.mk v2.Frame v2.Seed v2.Players ([(T_api_Shot.mk (5 : Int) (6 : Int) (-2048 :
    Int) (2048 : Int) (1 : Int) (40 : Int))] : List T_api_Shot) v2.Score))

def m_state_ofPlayer (F : Nat) (p0 : T_api_Player) : Option ((List Int)) :=
  some ([p0.X, p0.Y, p0.VX, p0.VY, (IntKind.wrap .i32 p0.Health), (IntKind.wrap .i32 p0.Cool), (IntKind.wrap .i32 p0.Face)] : List Int)

def m_state_within_L6 (F : Nat) (p0 : (List Int)) (p1 : (List (Int × Int))) : Nat → Int → Option ((Bool) ⊕ (Bool))
  | 0, _ => none
  | n + 1, j7_8 =>
      (cond (decide (j7_8 < (p0.length : Int))) (Option.bind (getI p0 j7_8) fun v13 => (Option.bind (getI p1 j7_8) fun v17 => (Option.bind (cond
        (decide (v13 < v17.1)) (some (true)) ((Option.bind (getI p0 j7_8) fun v24 => (Option.bind (getI p1 j7_8) fun v28 => some ((decide (v28.2 <
        v24))))))) fun v32 => (cond v32 (some (.inr false)) (m_state_within_L6 F p0 p1 n (IntKind.wrap .i64 (j7_8 + (1 : Int)))))))) (some (.inl
        false)))

def m_state_within (F : Nat) (p0 : (List Int)) (p1 : (List (Int × Int))) : Option (Bool) :=
  (Option.bind (m_state_within_L6 F p0 p1 F (0 : Int)) (orE (fun l7_4 => some true) (fun r7 => some r7)))

def m_state_ofShot (F : Nat) (p0 : T_api_Shot) : Option ((List Int)) :=
  some ([p0.X, p0.Y, p0.VX, p0.VY, (IntKind.wrap .i32 p0.Owner), (IntKind.wrap .i32 p0.Life)] : List Int)

def m_state_Check_1 (F : Nat) (p0 : T_api_Shot) (p1 : (Arr (Int × Int) 6)) : Option (Bool) :=
  (Option.bind (m_state_ofShot F p0) fun v5 => (Option.bind (m_state_within F v5 p1.1) fun v7 => some (!v7)))

def m_slices_IndexFunc___api_Shot_api_Shot_f1_state_Check_1_L6 (F : Nat) (p0 : (List T_api_Shot)) (p1c0 : (Arr (Int × Int) 6)) : Nat → Int → Option ((Int) ⊕ (Int))
  | 0, _ => none
  | n + 1, j7_8 =>
      (cond (decide (j7_8 < (p0.length : Int))) (Option.bind (getI p0 j7_8) fun v14 => (Option.bind (m_state_Check_1 F v14 p1c0) fun v16 => (cond v16
        (some (.inr j7_8)) (m_slices_IndexFunc___api_Shot_api_Shot_f1_state_Check_1_L6 F p0 p1c0 n (IntKind.wrap .i64 (j7_8 + (1 : Int))))))) (some
        (.inl (0 : Int))))

def m_slices_IndexFunc___api_Shot_api_Shot_f1_state_Check_1 (F : Nat) (p0 : (List T_api_Shot)) (p1c0 : (Arr (Int × Int) 6)) : Option (Int) :=
  (Option.bind (m_slices_IndexFunc___api_Shot_api_Shot_f1_state_Check_1_L6 F p0 p1c0 F (0 : Int)) (orE (fun l7_4 => some (-1 : Int)) (fun r7 => some
    r7)))

def m_slices_ContainsFunc___api_Shot_api_Shot_f1_state_Check_1 (F : Nat) (p0 : (List T_api_Shot)) (p1c0 : (Arr (Int × Int) 6)) : Option (Bool) :=
  (Option.bind (m_slices_IndexFunc___api_Shot_api_Shot_f1_state_Check_1 F p0 p1c0) fun v7 => some (decide ((0 : Int) ≤ v7)))

def m_state_Check_L10 (F : Nat) (p0 : T_api_State) : Nat → Bool → Int → Option (Bool)
  | 0, _, _ => none
  | n + 1, j11_5, j11_16 =>
      (cond (decide (j11_16 < (2 : Int))) (cond (j11_16 == (0 : Int)) ((Option.bind (cond j11_5 ((Option.bind (m_state_ofPlayer F p0.Players.1) fun
        v22 => (Option.bind (m_state_within F v22 ([((0 : Int), (61440 : Int)), ((0 : Int), (28672 : Int)), (((-1024) : Int), (1024 : Int)), (((-1024)
        : Int), (1024 : Int)), ((1 : Int), (100 : Int)), ((0 : Int), (30 : Int)), ((0 : Int), (3 : Int))] : List (Int × Int))) fun v24 => some
        (v24)))) (some (false))) fun v25 => m_state_Check_L10 F p0 n v25 (IntKind.wrap .i64 (j11_16 + (1 : Int))))) (cond (j11_16 == (1 : Int))
        ((Option.bind (cond j11_5 ((Option.bind (m_state_ofPlayer F p0.Players.2) fun v22 => (Option.bind (m_state_within F v22 ([((0 : Int), (61440 :
        Int)), ((0 : Int), (28672 : Int)), (((-1024) : Int), (1024 : Int)), (((-1024) : Int), (1024 : Int)), ((1 : Int), (100 : Int)), ((0 : Int), (30
        : Int)), ((0 : Int), (3 : Int))] : List (Int × Int))) fun v24 => some (v24)))) (some (false))) fun v25 => m_state_Check_L10 F p0 n v25
        (IntKind.wrap .i64 (j11_16 + (1 : Int))))) none)) (some j11_5))

def m_state_Check (F : Nat) (p0 : T_api_State) : Option (Int) :=
  (Option.bind (m_state_Check_L10 F p0 F (decide ((p0.Shots.length : Int) ≤ (8 : Int))) (0 : Int)) fun l11_5 => (Option.bind (cond (!l11_5) (some
    (true)) ((Option.bind (m_slices_ContainsFunc___api_Shot_api_Shot_f1_state_Check_1 F p0.Shots (⟨[((0 : Int), (65024 : Int)), ((0 : Int), (32256 :
    Int)), (((-2048) : Int), (2048 : Int)), (((-2048) : Int), (2048 : Int)), ((0 : Int), (1 : Int)), ((1 : Int), (40 : Int))], rfl⟩ : Arr (Int × Int)
    6)) fun v33 => some (v33)))) fun v34 => (cond v34 (some (4 : Int)) (some (0 : Int)))))

def m_codec_put_uint64_L9 (F : Nat) (p1 : Int) (p2 : Int) : Nat → Int → (List Int) → Option ((List Int))
  | 0, _, _ => none
  | n + 1, j10_10, j10_p0_f0 =>
      (cond (decide (j10_10 < p2)) (Option.bind (shrI .u64 p1 (IntKind.wrap .i64 ((8 : Int) * j10_10))) fun v21 => (Option.bind (appI j10_p0_f0
        ([(IntKind.wrap .u8 v21)] : List Int)) fun v24 => m_codec_put_uint64_L9 F p1 p2 n (IntKind.wrap .i64 (j10_10 + (1 : Int))) v24)) (some
        j10_p0_f0))

def m_codec_put_uint64 (F : Nat) (p0 : T_codec_Writer) (p1 : Int) (p2 : Int) : Option (T_codec_Writer) :=
  (Option.bind (m_codec_put_uint64_L9 F p1 p2 F (0 : Int) p0.b) fun l10_p0_f0 => some (T_codec_Writer.mk l10_p0_f0))

def m_codec_Writer_U64 (F : Nat) (p0 : T_codec_Writer) (p1 : Int) : Option (T_codec_Writer) :=
  (Option.bind (m_codec_put_uint64 F p0 p1 (8 : Int)) fun o6_0 => some o6_0)

def m_codec_put_uint32_L9 (F : Nat) (p1 : Int) (p2 : Int) : Nat → Int → (List Int) → Option ((List Int))
  | 0, _, _ => none
  | n + 1, j10_10, j10_p0_f0 =>
      (cond (decide (j10_10 < p2)) (Option.bind (shrI .u64 (IntKind.wrap .u64 p1) (IntKind.wrap .i64 ((8 : Int) * j10_10))) fun v22 => (Option.bind
        (appI j10_p0_f0 ([(IntKind.wrap .u8 v22)] : List Int)) fun v25 => m_codec_put_uint32_L9 F p1 p2 n (IntKind.wrap .i64 (j10_10 + (1 : Int)))
        v25)) (some j10_p0_f0))

def m_codec_put_uint32 (F : Nat) (p0 : T_codec_Writer) (p1 : Int) (p2 : Int) : Option (T_codec_Writer) :=
  (Option.bind (m_codec_put_uint32_L9 F p1 p2 F (0 : Int) p0.b) fun l10_p0_f0 => some (T_codec_Writer.mk l10_p0_f0))

def m_codec_Writer_I32 (F : Nat) (p0 : T_codec_Writer) (p1 : Int) : Option (T_codec_Writer) :=
  (Option.bind (m_codec_put_uint32 F p0 (IntKind.wrap .u32 p1) (4 : Int)) fun o7_0 => some o7_0)

def m_codec_put_uint8_L9 (F : Nat) (p1 : Int) (p2 : Int) : Nat → Int → (List Int) → Option ((List Int))
  | 0, _, _ => none
  | n + 1, j10_10, j10_p0_f0 =>
      (cond (decide (j10_10 < p2)) (Option.bind (shrI .u64 (IntKind.wrap .u64 p1) (IntKind.wrap .i64 ((8 : Int) * j10_10))) fun v22 => (Option.bind
        (appI j10_p0_f0 ([(IntKind.wrap .u8 v22)] : List Int)) fun v25 => m_codec_put_uint8_L9 F p1 p2 n (IntKind.wrap .i64 (j10_10 + (1 : Int)))
        v25)) (some j10_p0_f0))

def m_codec_put_uint8 (F : Nat) (p0 : T_codec_Writer) (p1 : Int) (p2 : Int) : Option (T_codec_Writer) :=
  (Option.bind (m_codec_put_uint8_L9 F p1 p2 F (0 : Int) p0.b) fun l10_p0_f0 => some (T_codec_Writer.mk l10_p0_f0))

def m_codec_Writer_U8 (F : Nat) (p0 : T_codec_Writer) (p1 : Int) : Option (T_codec_Writer) :=
  (Option.bind (m_codec_put_uint8 F p0 p1 (1 : Int)) fun o6_0 => some o6_0)

def m_state_put_L3 (F : Nat) (p1 : (List Int)) : Nat → Int → (List Int) → Option ((List Int))
  | 0, _, _ => none
  | n + 1, j4_8, j4_p0_f0 =>
      (cond (decide (j4_8 < (p1.length : Int))) (Option.bind (getI p1 j4_8) fun v11 => (cond (decide (j4_8 < (4 : Int))) (Option.bind
        (m_codec_Writer_I32 F (T_codec_Writer.mk j4_p0_f0) v11) fun o17_0 => m_state_put_L3 F p1 n (IntKind.wrap .i64 (j4_8 + (1 : Int))) o17_0.b)
        (Option.bind (m_codec_Writer_U8 F (T_codec_Writer.mk j4_p0_f0) (IntKind.wrap .u8 v11)) fun o21_0 => m_state_put_L3 F p1 n (IntKind.wrap .i64
        (j4_8 + (1 : Int))) o21_0.b))) (some j4_p0_f0))

def m_state_put (F : Nat) (p0 : T_codec_Writer) (p1 : (List Int)) : Option (T_codec_Writer) :=
  (Option.bind (m_state_put_L3 F p1 F (0 : Int) p0.b) fun l4_p0_f0 => some (T_codec_Writer.mk l4_p0_f0))

def m_codec_Writer_Var_L2 (F : Nat) : Nat → Int → (List Int) → Option (Int × (List Int))
  | 0, _, _ => none
  | n + 1, j3_1, j3_p0_f0 =>
      (cond (decide ((127 : Int) < j3_1)) (Option.bind (m_codec_Writer_U8 F (T_codec_Writer.mk j3_p0_f0) (bits .or .u8 (IntKind.wrap .u8 j3_1) (128 :
        Int))) fun o10_0 => m_codec_Writer_Var_L2 F n (j3_1 / 2 ^ (min 7 (IntKind.bits .u64))) o10_0.b) (some (j3_1, j3_p0_f0)))

def m_codec_Writer_Var (F : Nat) (p0 : T_codec_Writer) (p1 : Int) : Option (T_codec_Writer) :=
  (Option.bind (m_codec_Writer_Var_L2 F F p1 p0.b) fun (l3_1, l3_p0_f0) => (Option.bind (m_codec_Writer_U8 F (T_codec_Writer.mk l3_p0_f0)
    (IntKind.wrap .u8 l3_1)) fun o16_0 => some o16_0))

def m_codec_put_uint16_L9 (F : Nat) (p1 : Int) (p2 : Int) : Nat → Int → (List Int) → Option ((List Int))
  | 0, _, _ => none
  | n + 1, j10_10, j10_p0_f0 =>
      (cond (decide (j10_10 < p2)) (Option.bind (shrI .u64 (IntKind.wrap .u64 p1) (IntKind.wrap .i64 ((8 : Int) * j10_10))) fun v22 => (Option.bind
        (appI j10_p0_f0 ([(IntKind.wrap .u8 v22)] : List Int)) fun v25 => m_codec_put_uint16_L9 F p1 p2 n (IntKind.wrap .i64 (j10_10 + (1 : Int)))
        v25)) (some j10_p0_f0))

def m_codec_put_uint16 (F : Nat) (p0 : T_codec_Writer) (p1 : Int) (p2 : Int) : Option (T_codec_Writer) :=
  (Option.bind (m_codec_put_uint16_L9 F p1 p2 F (0 : Int) p0.b) fun l10_p0_f0 => some (T_codec_Writer.mk l10_p0_f0))

def m_codec_Writer_U16 (F : Nat) (p0 : T_codec_Writer) (p1 : Int) : Option (T_codec_Writer) :=
  (Option.bind (m_codec_put_uint16 F p0 p1 (2 : Int)) fun o6_0 => some o6_0)

def m_codec_Writer_Bytes (F : Nat) (p0 : T_codec_Writer) : Option ((List UInt8)) :=
  some (toB p0.b)

def m_state_Put_L20 (F : Nat) (p0 : T_api_State) : Nat → Int → (List Int) → Option ((List Int))
  | 0, _, _ => none
  | n + 1, j21_21, j21_n3_f0 =>
      (cond (decide (j21_21 < (2 : Int))) (cond (j21_21 == (0 : Int)) ((Option.bind (m_state_ofPlayer F p0.Players.1) fun v25 => (Option.bind
        (m_state_put F (T_codec_Writer.mk j21_n3_f0) v25) fun o26_0 => m_state_Put_L20 F p0 n (IntKind.wrap .i64 (j21_21 + (1 : Int))) o26_0.b)))
        (cond (j21_21 == (1 : Int)) ((Option.bind (m_state_ofPlayer F p0.Players.2) fun v25 => (Option.bind (m_state_put F (T_codec_Writer.mk
        j21_n3_f0) v25) fun o26_0 => m_state_Put_L20 F p0 n (IntKind.wrap .i64 (j21_21 + (1 : Int))) o26_0.b))) none)) (some j21_n3_f0))

def m_state_Put_L39 (F : Nat) (p0 : T_api_State) : Nat → Int → (List Int) → Option ((List Int))
  | 0, _, _ => none
  | n + 1, j40_36, j40_n3_f0 =>
      (cond (decide (j40_36 < (p0.Shots.length : Int))) (Option.bind (getI p0.Shots j40_36) fun v38 => (Option.bind (m_state_ofShot F v38) fun v41 =>
        (Option.bind (m_state_put F (T_codec_Writer.mk j40_n3_f0) v41) fun o42_0 => m_state_Put_L39 F p0 n (IntKind.wrap .i64 (j40_36 + (1 : Int)))
        o42_0.b))) (some j40_n3_f0))

def m_state_Put_L56 (F : Nat) (p0 : T_api_State) : Nat → Int → (List Int) → Option ((List Int))
  | 0, _, _ => none
  | n + 1, j57_46, j57_n3_f0 =>
      (cond (decide (j57_46 < (2 : Int))) (cond (j57_46 == (0 : Int)) ((Option.bind (m_codec_Writer_U16 F (T_codec_Writer.mk j57_n3_f0) p0.Score.1)
        fun o50_0 => m_state_Put_L56 F p0 n (IntKind.wrap .i64 (j57_46 + (1 : Int))) o50_0.b)) (cond (j57_46 == (1 : Int)) ((Option.bind
        (m_codec_Writer_U16 F (T_codec_Writer.mk j57_n3_f0) p0.Score.2) fun o50_0 => m_state_Put_L56 F p0 n (IntKind.wrap .i64 (j57_46 + (1 : Int)))
        o50_0.b)) none)) (some j57_n3_f0))

def m_state_Put (F : Nat) (p0 : T_api_State) : Option ((List UInt8)) :=
  (Option.bind (m_state_Check F p0) fun v11 => (cond (v11 != (0 : Int)) (some ([] : List UInt8)) (Option.bind (m_codec_Writer_U64 F (T_codec_Writer.mk
    ([] : List Int)) p0.Frame) fun o15_0 => (Option.bind (m_codec_Writer_U64 F o15_0 p0.Seed) fun o18_0 => (Option.bind (m_state_Put_L20 F p0 F (0 :
    Int) o18_0.b) fun l21_n3_f0 => (Option.bind (m_codec_Writer_Var F (T_codec_Writer.mk l21_n3_f0) (IntKind.wrap .u64 (p0.Shots.length : Int))) fun
    o32_0 => (Option.bind (m_state_Put_L39 F p0 F (0 : Int) o32_0.b) fun l40_n3_f0 => (Option.bind (m_state_Put_L56 F p0 F (0 : Int) l40_n3_f0) fun
    l57_n3_f0 => (Option.bind (m_codec_Writer_Bytes F (T_codec_Writer.mk l57_n3_f0)) fun v52 => some v52)))))))))

def m_codec_New (F : Nat) (p0 : (List UInt8)) : Option (T_codec_Reader) :=
  some (T_codec_Reader.mk (T_codec_left.mk p0 (0 : Int)))

def m_codec_left_fail (F : Nat) (p0 : T_codec_left) (p1 : Int) : Option (T_codec_left) :=
  (cond (p0.e == (0 : Int)) (some (T_codec_left.mk ([] : List UInt8) p1)) (some p0))

def m_codec_left_take (F : Nat) (p0 : T_codec_left) (p1 : Int) : Option (T_codec_left × (List UInt8) × Bool) :=
  (cond (p0.e != (0 : Int)) (some (p0, ([] : List UInt8), false)) (cond (decide ((IntKind.wrap .u64 (p0.s.length : Int)) < p1)) (Option.bind
    (m_codec_left_fail F p0 (10 : Int)) fun o21_0 => some (o21_0, ([] : List UInt8), false)) (Option.bind (cutI p0.s 0 p1) fun v27 => (Option.bind
    (cutI p0.s p1 (p0.s.length : Int)) fun v34 => some ((T_codec_left.mk v34 p0.e), v27, true)))))

def m_codec_get_uint64_L16 (F : Nat) (v16_0 : (List UInt8)) : Nat → Int → Int → Option (Int)
  | 0, _, _ => none
  | n + 1, j17_4, j17_21 =>
      (cond (decide (j17_21 < (v16_0.length : Int))) (Option.bind (getI v16_0 j17_21) fun v27 => (Option.bind (shlI .u64 (IntKind.wrap .u64 (v27.toNat
        : Int)) (IntKind.wrap .i64 ((8 : Int) * j17_21))) fun v31 => m_codec_get_uint64_L16 F v16_0 n (bits .or .u64 j17_4 v31) (IntKind.wrap .i64
        (j17_21 + (1 : Int))))) (some j17_4))

def m_codec_get_uint64 (F : Nat) (p0 : T_codec_Reader) (p1 : Int) : Option (T_codec_Reader × Int) :=
  (Option.bind (m_codec_left_take F p0.left (IntKind.wrap .u64 p1)) fun (o16_0, v16_0, v16_1) => (Option.bind (m_codec_get_uint64_L16 F v16_0 F (0 :
    Int) (0 : Int)) fun l17_4 => some ((T_codec_Reader.mk o16_0), l17_4)))

def m_codec_Reader_U64 (F : Nat) (p0 : T_codec_Reader) : Option (T_codec_Reader × Int) :=
  (Option.bind (m_codec_get_uint64 F p0 (8 : Int)) fun (o4_0, v4) => some (o4_0, v4))

def m_codec_get_uint32_L16 (F : Nat) (v16_0 : (List UInt8)) : Nat → Int → Int → Option (Int)
  | 0, _, _ => none
  | n + 1, j17_4, j17_21 =>
      (cond (decide (j17_21 < (v16_0.length : Int))) (Option.bind (getI v16_0 j17_21) fun v27 => (Option.bind (shlI .u64 (IntKind.wrap .u64 (v27.toNat
        : Int)) (IntKind.wrap .i64 ((8 : Int) * j17_21))) fun v31 => m_codec_get_uint32_L16 F v16_0 n (bits .or .u32 j17_4 (IntKind.wrap .u32 v31))
        (IntKind.wrap .i64 (j17_21 + (1 : Int))))) (some j17_4))

def m_codec_get_uint32 (F : Nat) (p0 : T_codec_Reader) (p1 : Int) : Option (T_codec_Reader × Int) :=
  (Option.bind (m_codec_left_take F p0.left (IntKind.wrap .u64 p1)) fun (o16_0, v16_0, v16_1) => (Option.bind (m_codec_get_uint32_L16 F v16_0 F (0 :
    Int) (0 : Int)) fun l17_4 => some ((T_codec_Reader.mk o16_0), l17_4)))

def m_codec_Reader_I32 (F : Nat) (p0 : T_codec_Reader) : Option (T_codec_Reader × Int) :=
  (Option.bind (m_codec_get_uint32 F p0 (4 : Int)) fun (o4_0, v4) => some (o4_0, (IntKind.wrap .i32 v4)))

def m_codec_get_uint8_L16 (F : Nat) (v16_0 : (List UInt8)) : Nat → Int → Int → Option (Int)
  | 0, _, _ => none
  | n + 1, j17_4, j17_21 =>
      (cond (decide (j17_21 < (v16_0.length : Int))) (Option.bind (getI v16_0 j17_21) fun v27 => (Option.bind (shlI .u64 (IntKind.wrap .u64 (v27.toNat
        : Int)) (IntKind.wrap .i64 ((8 : Int) * j17_21))) fun v31 => m_codec_get_uint8_L16 F v16_0 n (bits .or .u8 j17_4 (IntKind.wrap .u8 v31))
        (IntKind.wrap .i64 (j17_21 + (1 : Int))))) (some j17_4))

def m_codec_get_uint8 (F : Nat) (p0 : T_codec_Reader) (p1 : Int) : Option (T_codec_Reader × Int) :=
  (Option.bind (m_codec_left_take F p0.left (IntKind.wrap .u64 p1)) fun (o16_0, v16_0, v16_1) => (Option.bind (m_codec_get_uint8_L16 F v16_0 F (0 :
    Int) (0 : Int)) fun l17_4 => some ((T_codec_Reader.mk o16_0), l17_4)))

def m_codec_Reader_U8 (F : Nat) (p0 : T_codec_Reader) : Option (T_codec_Reader × Int) :=
  (Option.bind (m_codec_get_uint8 F p0 (1 : Int)) fun (o4_0, v4) => some (o4_0, v4))

def m_state_player (F : Nat) (p0 : (List Int)) : Option (T_api_Player) :=
  (Option.bind (getI p0 (0 : Int)) fun v4 => (Option.bind (getI p0 (1 : Int)) fun v7 => (Option.bind (getI p0 (2 : Int)) fun v10 => (Option.bind (getI
    p0 (3 : Int)) fun v13 => (Option.bind (getI p0 (4 : Int)) fun v16 => (Option.bind (getI p0 (5 : Int)) fun v20 => (Option.bind (getI p0 (6 : Int))
    fun v24 => some (T_api_Player.mk v4 v7 v10 v13 (IntKind.wrap .u8 v16) (IntKind.wrap .u8 v20) (IntKind.wrap .u8 v24)))))))))

def m_state_take_api_Player_f2_state_player_L8 (F : Nat) (p1 : Int) : Nat → Int → (List Int) → T_codec_Reader → Option ((List Int) × T_codec_Reader)
  | 0, _, _, _ => none
  | n + 1, j9_12, j9_7, j9_p0 =>
      (cond (decide (j9_12 < p1)) (cond (decide (j9_12 < (4 : Int))) (Option.bind (m_codec_Reader_I32 F j9_p0) fun (o20_0, v20) => (Option.bind (getI
        j9_7 j9_12) fun v21 => m_state_take_api_Player_f2_state_player_L8 F p1 n (IntKind.wrap .i64 (j9_12 + (1 : Int))) (setI j9_7 j9_12 v20) o20_0))
        (Option.bind (m_codec_Reader_U8 F j9_p0) fun (o25_0, v25) => (Option.bind (getI j9_7 j9_12) fun v27 =>
        m_state_take_api_Player_f2_state_player_L8 F p1 n (IntKind.wrap .i64 (j9_12 + (1 : Int))) (setI j9_7 j9_12 (IntKind.wrap .i32 v25)) o25_0)))
        (some (j9_7, j9_p0)))

def m_state_take_api_Player_f2_state_player (F : Nat) (p0 : T_codec_Reader) (p1 : Int) : Option (T_codec_Reader × T_api_Player) :=
  (Option.bind (mkI p1 (0 : Int)) fun v10 => (Option.bind (m_state_take_api_Player_f2_state_player_L8 F p1 F (0 : Int) v10 p0) fun (l9_7, l9_p0) =>
    (Option.bind (m_state_player F l9_7) fun v31 => some (l9_p0, v31))))

def m_codec_Reader_Var_L14 (F : Nat) : Nat → Int → Int → T_codec_Reader → Option ((Int × T_codec_Reader) ⊕ (T_codec_Reader × Int))
  | 0, _, _, _ => none
  | n + 1, j15_2, j15_9, j15_p0 =>
      (cond (decide (j15_9 < (10 : Int))) (Option.bind (m_codec_left_take F j15_p0.left (1 : Int)) fun (o16_0, v16_0, v16_1) => (cond (!v16_1) (some
        (.inr ((T_codec_Reader.mk o16_0), (0 : Int)))) (Option.bind (getI v16_0 (0 : Int)) fun v22 => (Option.bind (cond (j15_9 == (9 : Int)) (some
        ((decide ((1 : Int) < (v22.toNat : Int))))) (some (false))) fun v29 => (cond v29 (Option.bind (m_codec_left_fail F o16_0 (3 : Int)) fun o33_0
        => some (.inr ((T_codec_Reader.mk o33_0), (0 : Int)))) (Option.bind (cond ((v22.toNat : Int) == (0 : Int)) (some ((decide ((0 : Int) <
        j15_9)))) (some (false))) fun v40 => (cond v40 (Option.bind (m_codec_left_fail F o16_0 (4 : Int)) fun o44_0 => some (.inr ((T_codec_Reader.mk
        o44_0), (0 : Int)))) (Option.bind (shlI .u64 (IntKind.wrap .u64 (bits .and .u8 (v22.toNat : Int) (127 : Int))) (IntKind.wrap .i64 ((7 : Int) *
        j15_9))) fun v51 => (cond (decide ((v22.toNat : Int) < (128 : Int))) (some (.inr ((T_codec_Reader.mk o16_0), (bits .or .u64 j15_2 v51))))
        (m_codec_Reader_Var_L14 F n (bits .or .u64 j15_2 v51) (IntKind.wrap .i64 (j15_9 + (1 : Int))) (T_codec_Reader.mk o16_0))))))))))) (some (.inl
        (j15_2, j15_p0))))

def m_codec_Reader_Var (F : Nat) (p0 : T_codec_Reader) : Option (T_codec_Reader × Int) :=
  (Option.bind (m_codec_Reader_Var_L14 F F (0 : Int) (0 : Int) p0) (orE (fun (l15_2, l15_p0) => some (l15_p0, l15_2)) (fun r15 => some r15)))

def m_state_shot (F : Nat) (p0 : (List Int)) : Option (T_api_Shot) :=
  (Option.bind (getI p0 (0 : Int)) fun v4 => (Option.bind (getI p0 (1 : Int)) fun v7 => (Option.bind (getI p0 (2 : Int)) fun v10 => (Option.bind (getI
    p0 (3 : Int)) fun v13 => (Option.bind (getI p0 (4 : Int)) fun v16 => (Option.bind (getI p0 (5 : Int)) fun v20 => some (T_api_Shot.mk v4 v7 v10 v13
    (IntKind.wrap .u8 v16) (IntKind.wrap .u8 v20))))))))

def m_state_take_api_Shot_f2_state_shot_L8 (F : Nat) (p1 : Int) : Nat → Int → (List Int) → T_codec_Reader → Option ((List Int) × T_codec_Reader)
  | 0, _, _, _ => none
  | n + 1, j9_12, j9_7, j9_p0 =>
      (cond (decide (j9_12 < p1)) (cond (decide (j9_12 < (4 : Int))) (Option.bind (m_codec_Reader_I32 F j9_p0) fun (o20_0, v20) => (Option.bind (getI
        j9_7 j9_12) fun v21 => m_state_take_api_Shot_f2_state_shot_L8 F p1 n (IntKind.wrap .i64 (j9_12 + (1 : Int))) (setI j9_7 j9_12 v20) o20_0))
        (Option.bind (m_codec_Reader_U8 F j9_p0) fun (o25_0, v25) => (Option.bind (getI j9_7 j9_12) fun v27 => m_state_take_api_Shot_f2_state_shot_L8
        F p1 n (IntKind.wrap .i64 (j9_12 + (1 : Int))) (setI j9_7 j9_12 (IntKind.wrap .i32 v25)) o25_0))) (some (j9_7, j9_p0)))

def m_state_take_api_Shot_f2_state_shot (F : Nat) (p0 : T_codec_Reader) (p1 : Int) : Option (T_codec_Reader × T_api_Shot) :=
  (Option.bind (mkI p1 (0 : Int)) fun v10 => (Option.bind (m_state_take_api_Shot_f2_state_shot_L8 F p1 F (0 : Int) v10 p0) fun (l9_7, l9_p0) =>
    (Option.bind (m_state_shot F l9_7) fun v31 => some (l9_p0, v31))))

def m_codec_get_uint16_L16 (F : Nat) (v16_0 : (List UInt8)) : Nat → Int → Int → Option (Int)
  | 0, _, _ => none
  | n + 1, j17_4, j17_21 =>
      (cond (decide (j17_21 < (v16_0.length : Int))) (Option.bind (getI v16_0 j17_21) fun v27 => (Option.bind (shlI .u64 (IntKind.wrap .u64 (v27.toNat
        : Int)) (IntKind.wrap .i64 ((8 : Int) * j17_21))) fun v31 => m_codec_get_uint16_L16 F v16_0 n (bits .or .u16 j17_4 (IntKind.wrap .u16 v31))
        (IntKind.wrap .i64 (j17_21 + (1 : Int))))) (some j17_4))

def m_codec_get_uint16 (F : Nat) (p0 : T_codec_Reader) (p1 : Int) : Option (T_codec_Reader × Int) :=
  (Option.bind (m_codec_left_take F p0.left (IntKind.wrap .u64 p1)) fun (o16_0, v16_0, v16_1) => (Option.bind (m_codec_get_uint16_L16 F v16_0 F (0 :
    Int) (0 : Int)) fun l17_4 => some ((T_codec_Reader.mk o16_0), l17_4)))

def m_codec_Reader_U16 (F : Nat) (p0 : T_codec_Reader) : Option (T_codec_Reader × Int) :=
  (Option.bind (m_codec_get_uint16 F p0 (2 : Int)) fun (o4_0, v4) => some (o4_0, v4))

def m_codec_Reader_Err (F : Nat) (p0 : T_codec_Reader) : Option (Int) :=
  some p0.left.e

def m_codec_Reader_Rest (F : Nat) (p0 : T_codec_Reader) : Option ((List UInt8)) :=
  some p0.left.s

def m_state_Take_L10 (F : Nat) : Nat → Int → T_codec_Reader → (T_api_Player × T_api_Player) → Option (T_codec_Reader × (T_api_Player × T_api_Player))
  | 0, _, _, _ => none
  | n + 1, j11_16, j11_n10_0, j11_n5_f2 =>
      (cond (decide (j11_16 < (2 : Int))) (Option.bind (m_state_take_api_Player_f2_state_player F j11_n10_0 (7 : Int)) fun (o21_0, v21) => (cond
        (j11_16 == (0 : Int)) (m_state_Take_L10 F n (IntKind.wrap .i64 (j11_16 + (1 : Int))) o21_0 (v21, j11_n5_f2.2)) (cond (j11_16 == (1 : Int))
        (m_state_Take_L10 F n (IntKind.wrap .i64 (j11_16 + (1 : Int))) o21_0 (j11_n5_f2.1, v21)) none))) (some (j11_n10_0, j11_n5_f2)))

def m_state_Take_L37 (F : Nat) (v26 : Int) : Nat → Int → T_codec_Reader → (List T_api_Shot) → Option (T_codec_Reader × (List T_api_Shot))
  | 0, _, _, _ => none
  | n + 1, j38_31, j38_n10_0, j38_n5_f3 =>
      (cond (decide (j38_31 < v26)) (Option.bind (m_state_take_api_Shot_f2_state_shot F j38_n10_0 (6 : Int)) fun (o36_0, v36) => (Option.bind (appI
        j38_n5_f3 ([v36] : List T_api_Shot)) fun v38 => m_state_Take_L37 F v26 n (IntKind.wrap .u64 (j38_31 + (1 : Int))) o36_0 v38)) (some
        (j38_n10_0, j38_n5_f3)))

def m_state_Take_L52 (F : Nat) : Nat → Int → T_codec_Reader → (Int × Int) → Option (T_codec_Reader × (Int × Int))
  | 0, _, _, _ => none
  | n + 1, j53_41, j53_n10_0, j53_n5_f4 =>
      (cond (decide (j53_41 < (2 : Int))) (Option.bind (m_codec_Reader_U16 F j53_n10_0) fun (o46_0, v46) => (cond (j53_41 == (0 : Int))
        (m_state_Take_L52 F n (IntKind.wrap .i64 (j53_41 + (1 : Int))) o46_0 (v46, j53_n5_f4.2)) (cond (j53_41 == (1 : Int)) (m_state_Take_L52 F n
        (IntKind.wrap .i64 (j53_41 + (1 : Int))) o46_0 (j53_n5_f4.1, v46)) none))) (some (j53_n10_0, j53_n5_f4)))

def m_state_Take (F : Nat) (p0 : (List UInt8)) : Option (T_api_State × Int) :=
  (Option.bind (m_codec_New F p0) fun v10 => (Option.bind (m_codec_Reader_U64 F v10) fun (o12_0, v12) => (Option.bind (m_codec_Reader_U64 F o12_0) fun
    (o14_0, v14) => (Option.bind (m_state_Take_L10 F F (0 : Int) o14_0 ((T_api_Player.mk (0 : Int) (0 : Int) (0 : Int) (0 : Int) (0 : Int) (0 : Int)
    (0 : Int)), (T_api_Player.mk (0 : Int) (0 : Int) (0 : Int) (0 : Int) (0 : Int) (0 : Int) (0 : Int)))) fun (l11_n10_0, l11_n5_f2) => (Option.bind
    (m_codec_Reader_Var F l11_n10_0) fun (o26_0, v26) => (cond (decide ((8 : Int) < v26)) (some ((T_api_State.mk (0 : Int) (0 : Int) ((T_api_Player.mk
    (0 : Int) (0 : Int) (0 : Int) (0 : Int) (0 : Int) (0 : Int) (0 : Int)), (T_api_Player.mk (0 : Int) (0 : Int) (0 : Int) (0 : Int) (0 : Int) (0 :
    Int) (0 : Int))) ([] : List T_api_Shot) ((0 : Int), (0 : Int))), (4 : Int))) (Option.bind (m_state_Take_L37 F v26 F (0 : Int) o26_0 ([] : List
    T_api_Shot)) fun (l38_n10_0, l38_n5_f3) => (Option.bind (m_state_Take_L52 F F (0 : Int) l38_n10_0 ((0 : Int), (0 : Int))) fun (l53_n10_0,
    l53_n5_f4) => (Option.bind (m_codec_Reader_Err F l53_n10_0) fun v52 => (cond (v52 != (0 : Int)) (Option.bind (m_codec_Reader_Err F l53_n10_0) fun
    v56 => some ((T_api_State.mk (0 : Int) (0 : Int) ((T_api_Player.mk (0 : Int) (0 : Int) (0 : Int) (0 : Int) (0 : Int) (0 : Int) (0 : Int)),
    (T_api_Player.mk (0 : Int) (0 : Int) (0 : Int) (0 : Int) (0 : Int) (0 : Int) (0 : Int))) ([] : List T_api_Shot) ((0 : Int), (0 : Int))), v56))
    (Option.bind (m_codec_Reader_Rest F l53_n10_0) fun v59 => (Option.bind (cond (!(v59 == ([] : List UInt8))) (some (true)) ((Option.bind
    (m_state_Check F (T_api_State.mk v12 v14 l11_n5_f2 l38_n5_f3 l53_n5_f4)) fun v63 => some ((v63 != (0 : Int)))))) fun v65 => (cond v65 (some
    ((T_api_State.mk (0 : Int) (0 : Int) ((T_api_Player.mk (0 : Int) (0 : Int) (0 : Int) (0 : Int) (0 : Int) (0 : Int) (0 : Int)), (T_api_Player.mk (0
    : Int) (0 : Int) (0 : Int) (0 : Int) (0 : Int) (0 : Int) (0 : Int))) ([] : List T_api_Shot) ((0 : Int), (0 : Int))), (4 : Int))) (some
    ((T_api_State.mk v12 v14 l11_n5_f2 l38_n5_f3 l53_n5_f4), (0 : Int))))))))))))))))

def m_slices_Equal___api_Shot_api_Shot_L14 (F : Nat) (p0 : (List T_api_Shot)) (p1 : (List T_api_Shot)) : Nat → Int → Option ((Bool) ⊕ (Bool))
  | 0, _ => none
  | n + 1, j15_13 =>
      (cond (decide (j15_13 < (p0.length : Int))) (Option.bind (getI p0 j15_13) fun v18 => (Option.bind (getI p1 j15_13) fun v22 => (cond (!((v18.X ==
        v22.X) && ((v18.Y == v22.Y) && ((v18.VX == v22.VX) && ((v18.VY == v22.VY) && ((v18.Owner == v22.Owner) && (v18.Life == v22.Life))))))) (some
        (.inr false)) (m_slices_Equal___api_Shot_api_Shot_L14 F p0 p1 n (IntKind.wrap .i64 (j15_13 + (1 : Int))))))) (some (.inl false)))

def m_slices_Equal___api_Shot_api_Shot (F : Nat) (p0 : (List T_api_Shot)) (p1 : (List T_api_Shot)) : Option (Bool) :=
  (cond ((p0.length : Int) != (p1.length : Int)) (some false) (Option.bind (m_slices_Equal___api_Shot_api_Shot_L14 F p0 p1 F (0 : Int)) (orE (fun
    l15_4 => some true) (fun r15 => some r15))))

def m_state_Same (F : Nat) (p0 : T_api_State) (p1 : T_api_State) : Option (Bool) :=
  (Option.bind (cond (p0.Frame == p1.Frame) (some ((p0.Seed == p1.Seed))) (some (false))) fun v16 => (Option.bind (cond v16 (some ((((p0.Players.1.X
    == p1.Players.1.X) && ((p0.Players.1.Y == p1.Players.1.Y) && ((p0.Players.1.VX == p1.Players.1.VX) && ((p0.Players.1.VY == p1.Players.1.VY) &&
    ((p0.Players.1.Health == p1.Players.1.Health) && ((p0.Players.1.Cool == p1.Players.1.Cool) && (p0.Players.1.Face == p1.Players.1.Face))))))) &&
    ((p0.Players.2.X == p1.Players.2.X) && ((p0.Players.2.Y == p1.Players.2.Y) && ((p0.Players.2.VX == p1.Players.2.VX) && ((p0.Players.2.VY ==
    p1.Players.2.VY) && ((p0.Players.2.Health == p1.Players.2.Health) && ((p0.Players.2.Cool == p1.Players.2.Cool) && (p0.Players.2.Face ==
    p1.Players.2.Face)))))))))) (some (false))) fun v23 => (Option.bind (cond v23 (some (((p0.Score.1 == p1.Score.1) && (p0.Score.2 == p1.Score.2))))
    (some (false))) fun v30 => (Option.bind (cond v30 ((Option.bind (m_slices_Equal___api_Shot_api_Shot F p0.Shots p1.Shots) fun v36 => some (v36)))
    (some (false))) fun v37 => some v37))))

def m_hindcastlaw08_fails (F : Nat) (p0 : (List UInt8)) (p1 : Int) : Option (Bool) :=
  (Option.bind (m_state_Take F p0) fun (v9_0, v9_1) => (Option.bind (cond (v9_1 == p1) ((Option.bind (m_state_Same F v9_0 (T_api_State.mk (0 : Int) (0
    : Int) ((T_api_Player.mk (0 : Int) (0 : Int) (0 : Int) (0 : Int) (0 : Int) (0 : Int) (0 : Int)), (T_api_Player.mk (0 : Int) (0 : Int) (0 : Int) (0
    : Int) (0 : Int) (0 : Int) (0 : Int))) ([] : List T_api_Shot) ((0 : Int), (0 : Int)))) fun v18 => some (v18))) (some (false))) fun v19 => some
    v19))

def m_hindcastlaw08_works (F : Nat) : Option (Bool) :=
  (Option.bind (m_hindcastlaw08_first F) fun v4 => (Option.bind (m_state_Put F v4) fun v5 => (Option.bind (m_state_Take F v5) fun (v8_0, v8_1) =>
    (Option.bind (cond ((v5.length : Int) == (77 : Int)) (some ((v8_1 == (0 : Int)))) (some (false))) fun v17 => (Option.bind (cond v17 ((Option.bind
    (m_hindcastlaw08_first F) fun v20 => (Option.bind (m_state_Same F v8_0 v20) fun v21 => some (v21)))) (some (false))) fun v22 => (Option.bind (cond
    v22 ((Option.bind (m_hindcastlaw08_fails F ([] : List UInt8) (10 : Int)) fun v24 => some (v24))) (some (false))) fun v25 => (Option.bind (cond v25
    ((Option.bind (m_state_Start F (1 : Int)) fun v27 => (Option.bind (m_state_Put F v27) fun v28 => some (((v28.length : Int) == (59 : Int))))))
    (some (false))) fun v31 => some v31)))))))

def m_hindcastref02_Reader_fail (F : Nat) (p0 : T_hindcastref02_Reader) (p1 : Int) : Option (T_hindcastref02_Reader) :=
  (cond (p0.E == (0 : Int)) (some (T_hindcastref02_Reader.mk p0.S p0.At p1)) (some p0))

def m_hindcastref02_Reader_Number_L18 (F : Nat) (p0 : T_hindcastref02_Reader) : Nat → Int → Int → Option (Int)
  | 0, _, _ => none
  | n + 1, j19_5, j19_6 =>
      (cond (decide ((0 : Int) ≤ j19_6)) (Option.bind (getI p0.S (IntKind.wrap .i64 (p0.At + j19_6))) fun v46 => m_hindcastref02_Reader_Number_L18 F
        p0 n (IntKind.wrap .u64 ((IntKind.wrap .u64 ((256 : Int) * j19_5)) + (IntKind.wrap .u64 (v46.toNat : Int)))) (IntKind.wrap .i64 (j19_6 - (1 :
        Int)))) (some j19_5))

def m_hindcastref02_Reader_Number (F : Nat) (p0 : T_hindcastref02_Reader) (p1 : Int) : Option (T_hindcastref02_Reader × Int) :=
  (Option.bind (cond (p0.E != (0 : Int)) (some (true)) (some ((decide ((IntKind.wrap .i64 ((p0.S.length : Int) - p0.At)) < p1))))) fun v25 => (cond
    v25 (Option.bind (m_hindcastref02_Reader_fail F p0 (10 : Int)) fun o27_0 => some (o27_0, (0 : Int))) (Option.bind
    (m_hindcastref02_Reader_Number_L18 F p0 F (0 : Int) (IntKind.wrap .i64 (p1 - (1 : Int)))) fun l19_5 => some ((T_hindcastref02_Reader.mk p0.S
    (IntKind.wrap .i64 (p0.At + p1)) p0.E), l19_5))))

def m_hindcastref08_number (F : Nat) (p0 : T_hindcastref02_Reader) : Option (T_hindcastref02_Reader × Int) :=
  (Option.bind (m_hindcastref02_Reader_Number F p0 (4 : Int)) fun (o4_0, v4) => some (o4_0, (IntKind.wrap .i32 (IntKind.wrap .u32 v4))))

def m_hindcastref02_Reader_Var_L10 (F : Nat) : Nat → Int → Int → Int → T_hindcastref02_Reader → Option ((Int × T_hindcastref02_Reader) ⊕ (T_hindcastref02_Reader × Int))
  | 0, _, _, _, _ => none
  | n + 1, j11_3, j11_4, j11_5, j11_p0 =>
      (cond (j11_p0.E == (0 : Int)) (Option.bind (m_hindcastref02_Reader_Number F j11_p0 (1 : Int)) fun (o15_0, v15) => (cond (o15_0.E != (0 : Int))
        (some (.inr (o15_0, (0 : Int)))) (Option.bind (cond (j11_5 == (10 : Int)) (some ((decide ((1 : Int) < v15)))) (some (false))) fun v26 => (cond
        v26 (Option.bind (m_hindcastref02_Reader_fail F o15_0 (3 : Int)) fun o28_0 => some (.inr (o28_0, (0 : Int)))) (Option.bind (cond (v15 == (0 :
        Int)) (some ((decide ((1 : Int) < j11_5)))) (some (false))) fun v34 => (cond v34 (Option.bind (m_hindcastref02_Reader_fail F o15_0 (4 : Int))
        fun o36_0 => some (.inr (o36_0, (0 : Int)))) (cond (decide (v15 < (128 : Int))) (some (.inr (o15_0, (IntKind.wrap .u64 (j11_3 + (IntKind.wrap
        .u64 ((Int.tmod v15 128) * j11_4))))))) (m_hindcastref02_Reader_Var_L10 F n (IntKind.wrap .u64 (j11_3 + (IntKind.wrap .u64 ((Int.tmod v15 128)
        * j11_4)))) (IntKind.wrap .u64 (j11_4 * (128 : Int))) (IntKind.wrap .i64 (j11_5 + (1 : Int))) o15_0)))))))) (some (.inl ((0 : Int), j11_p0))))

def m_hindcastref02_Reader_Var (F : Nat) (p0 : T_hindcastref02_Reader) : Option (T_hindcastref02_Reader × Int) :=
  (Option.bind (m_hindcastref02_Reader_Var_L10 F F (0 : Int) (1 : Int) (1 : Int) p0) (orE (fun (l11_2, l11_p0) => some (l11_p0, (0 : Int))) (fun r11
    => some r11)))

def m_hindcastref02_Reader_Rest (F : Nat) (p0 : T_hindcastref02_Reader) : Option ((List UInt8)) :=
  (cond (p0.E != (0 : Int)) (some ([] : List UInt8)) (Option.bind (cutI p0.S p0.At (p0.S.length : Int)) fun v16 => some v16))

def m_hindcastref08_in (F : Nat) (p0 : Int) (p1 : Int) (p2 : Int) : Option (Bool) :=
  (Option.bind (cond (decide (p1 ≤ p0)) (some ((decide (p0 ≤ p2)))) (some (false))) fun v14 => some v14)

def m_hindcastref08_Player (F : Nat) (p0 : T_api_Player) : Option (Bool) :=
  (Option.bind (m_hindcastref08_in F p0.X (0 : Int) (61440 : Int)) fun v5 => (Option.bind (cond v5 ((Option.bind (m_hindcastref08_in F p0.Y (0 : Int)
    (28672 : Int)) fun v9 => some (v9))) (some (false))) fun v10 => (Option.bind (cond v10 ((Option.bind (m_hindcastref08_in F p0.VX (-1024 : Int)
    (1024 : Int)) fun v14 => some (v14))) (some (false))) fun v15 => (Option.bind (cond v15 ((Option.bind (m_hindcastref08_in F p0.VY (-1024 : Int)
    (1024 : Int)) fun v19 => some (v19))) (some (false))) fun v20 => (Option.bind (cond v20 (some ((decide ((1 : Int) ≤ p0.Health)))) (some (false)))
    fun v25 => (Option.bind (cond v25 (some ((decide (p0.Health ≤ (100 : Int))))) (some (false))) fun v30 => (Option.bind (cond v30 (some ((decide
    (p0.Cool ≤ (30 : Int))))) (some (false))) fun v35 => (Option.bind (cond v35 (some ((decide (p0.Face ≤ (3 : Int))))) (some (false))) fun v40 =>
    some v40))))))))

def m_hindcastref08_Shot (F : Nat) (p0 : T_api_Shot) : Option (Bool) :=
  (Option.bind (m_hindcastref08_in F p0.X (0 : Int) (65024 : Int)) fun v5 => (Option.bind (cond v5 ((Option.bind (m_hindcastref08_in F p0.Y (0 : Int)
    (32256 : Int)) fun v9 => some (v9))) (some (false))) fun v10 => (Option.bind (cond v10 ((Option.bind (m_hindcastref08_in F p0.VX (-2048 : Int)
    (2048 : Int)) fun v14 => some (v14))) (some (false))) fun v15 => (Option.bind (cond v15 ((Option.bind (m_hindcastref08_in F p0.VY (-2048 : Int)
    (2048 : Int)) fun v19 => some (v19))) (some (false))) fun v20 => (Option.bind (cond v20 (some ((decide (p0.Owner ≤ (1 : Int))))) (some (false)))
    fun v25 => (Option.bind (cond v25 (some ((decide ((1 : Int) ≤ p0.Life)))) (some (false))) fun v30 => (Option.bind (cond v30 (some ((decide
    (p0.Life ≤ (40 : Int))))) (some (false))) fun v35 => some v35)))))))

def m_hindcastref08_Check_L14 (F : Nat) (p0 : T_api_State) : Nat → Int → Option ((Int) ⊕ (Int))
  | 0, _ => none
  | n + 1, j15_3 =>
      (cond (decide (j15_3 < (p0.Shots.length : Int))) (Option.bind (getI p0.Shots j15_3) fun v32 => (Option.bind (m_hindcastref08_Shot F v32) fun v34
        => (cond (!v34) (some (.inr (4 : Int))) (m_hindcastref08_Check_L14 F p0 n (IntKind.wrap .i64 (j15_3 + (1 : Int))))))) (some (.inl (0 : Int))))

def m_hindcastref08_Check (F : Nat) (p0 : T_api_State) : Option (Int) :=
  (Option.bind (cond (decide ((8 : Int) < (p0.Shots.length : Int))) (some (true)) ((Option.bind (m_hindcastref08_Player F p0.Players.1) fun v12 =>
    some ((!v12))))) fun v14 => (Option.bind (cond v14 (some (true)) ((Option.bind (m_hindcastref08_Player F p0.Players.2) fun v19 => some ((!v19)))))
    fun v21 => (cond v21 (some (4 : Int)) (Option.bind (m_hindcastref08_Check_L14 F p0 F (0 : Int)) (orE (fun l15_2 => some (0 : Int)) (fun r15 =>
    some r15))))))

def m_hindcastref08_Take_L14 (F : Nat) : Nat → Int → T_hindcastref02_Reader → (T_api_Player × T_api_Player) → Option (T_hindcastref02_Reader × (T_api_Player × T_api_Player))
  | 0, _, _, _ => none
  | n + 1, j15_6, j15_n13, j15_n5_f2 =>
      (cond (decide (j15_6 < (2 : Int))) (Option.bind (m_hindcastref08_number F j15_n13) fun (o27_0, v27) => (Option.bind (m_hindcastref08_number F
        o27_0) fun (o30_0, v30) => (Option.bind (m_hindcastref08_number F o30_0) fun (o33_0, v33) => (Option.bind (m_hindcastref08_number F o33_0) fun
        (o36_0, v36) => (Option.bind (m_hindcastref02_Reader_Number F o36_0 (1 : Int)) fun (o39_0, v39) => (Option.bind (m_hindcastref02_Reader_Number
        F o39_0 (1 : Int)) fun (o43_0, v43) => (Option.bind (m_hindcastref02_Reader_Number F o43_0 (1 : Int)) fun (o47_0, v47) => (cond (j15_6 == (0 :
        Int)) (m_hindcastref08_Take_L14 F n (IntKind.wrap .i64 (j15_6 + (1 : Int))) o47_0 ((T_api_Player.mk v27 v30 v33 v36 (IntKind.wrap .u8 v39)
        (IntKind.wrap .u8 v43) (IntKind.wrap .u8 v47)), j15_n5_f2.2)) (cond (j15_6 == (1 : Int)) (m_hindcastref08_Take_L14 F n (IntKind.wrap .i64
        (j15_6 + (1 : Int))) o47_0 (j15_n5_f2.1, (T_api_Player.mk v27 v30 v33 v36 (IntKind.wrap .u8 v39) (IntKind.wrap .u8 v43) (IntKind.wrap .u8
        v47)))) none))))))))) (some (j15_n13, j15_n5_f2)))

def m_hindcastref08_Take_L63 (F : Nat) (v55 : Int) : Nat → Int → T_hindcastref02_Reader → (List T_api_Shot) → Option (T_hindcastref02_Reader × (List T_api_Shot))
  | 0, _, _, _ => none
  | n + 1, j64_9, j64_n13, j64_n5_f3 =>
      (cond (decide (j64_9 < (IntKind.wrap .i64 v55))) (Option.bind (m_hindcastref08_number F j64_n13) fun (o77_0, v77) => (Option.bind
        (m_hindcastref08_number F o77_0) fun (o80_0, v80) => (Option.bind (m_hindcastref08_number F o80_0) fun (o83_0, v83) => (Option.bind
        (m_hindcastref08_number F o83_0) fun (o86_0, v86) => (Option.bind (m_hindcastref02_Reader_Number F o86_0 (1 : Int)) fun (o89_0, v89) =>
        (Option.bind (m_hindcastref02_Reader_Number F o89_0 (1 : Int)) fun (o93_0, v93) => (Option.bind (appI j64_n5_f3 ([(T_api_Shot.mk v77 v80 v83
        v86 (IntKind.wrap .u8 v89) (IntKind.wrap .u8 v93))] : List T_api_Shot)) fun v100 => m_hindcastref08_Take_L63 F v55 n (IntKind.wrap .i64 (j64_9
        + (1 : Int))) o93_0 v100))))))) (some (j64_n13, j64_n5_f3)))

def m_hindcastref08_Take (F : Nat) (p0 : (List UInt8)) : Option (T_api_State × Int) :=
  (Option.bind (m_hindcastref02_Reader_Number F (T_hindcastref02_Reader.mk p0 (0 : Int) (0 : Int)) (8 : Int)) fun (o16_0, v16) => (Option.bind
    (m_hindcastref02_Reader_Number F o16_0 (8 : Int)) fun (o19_0, v19) => (Option.bind (m_hindcastref08_Take_L14 F F (0 : Int) o19_0 ((T_api_Player.mk
    (0 : Int) (0 : Int) (0 : Int) (0 : Int) (0 : Int) (0 : Int) (0 : Int)), (T_api_Player.mk (0 : Int) (0 : Int) (0 : Int) (0 : Int) (0 : Int) (0 :
    Int) (0 : Int)))) fun (l15_n13, l15_n5_f2) => (Option.bind (m_hindcastref02_Reader_Var F l15_n13) fun (o55_0, v55) => (cond (o55_0.E != (0 : Int))
    (some ((T_api_State.mk (0 : Int) (0 : Int) ((T_api_Player.mk (0 : Int) (0 : Int) (0 : Int) (0 : Int) (0 : Int) (0 : Int) (0 : Int)),
    (T_api_Player.mk (0 : Int) (0 : Int) (0 : Int) (0 : Int) (0 : Int) (0 : Int) (0 : Int))) ([] : List T_api_Shot) ((0 : Int), (0 : Int))), o55_0.E))
    (cond (decide ((8 : Int) < v55)) (some ((T_api_State.mk (0 : Int) (0 : Int) ((T_api_Player.mk (0 : Int) (0 : Int) (0 : Int) (0 : Int) (0 : Int) (0
    : Int) (0 : Int)), (T_api_Player.mk (0 : Int) (0 : Int) (0 : Int) (0 : Int) (0 : Int) (0 : Int) (0 : Int))) ([] : List T_api_Shot) ((0 : Int), (0
    : Int))), (4 : Int))) (Option.bind (m_hindcastref08_Take_L63 F v55 F (0 : Int) o55_0 ([] : List T_api_Shot)) fun (l64_n13, l64_n5_f3) =>
    (Option.bind (m_hindcastref02_Reader_Number F l64_n13 (2 : Int)) fun (o103_0, v103) => (Option.bind (m_hindcastref02_Reader_Number F o103_0 (2 :
    Int)) fun (o108_0, v108) => (cond (o108_0.E != (0 : Int)) (some ((T_api_State.mk (0 : Int) (0 : Int) ((T_api_Player.mk (0 : Int) (0 : Int) (0 :
    Int) (0 : Int) (0 : Int) (0 : Int) (0 : Int)), (T_api_Player.mk (0 : Int) (0 : Int) (0 : Int) (0 : Int) (0 : Int) (0 : Int) (0 : Int))) ([] : List
    T_api_Shot) ((0 : Int), (0 : Int))), o108_0.E)) (Option.bind (m_hindcastref02_Reader_Rest F o108_0) fun v123 => (Option.bind (cond (!(v123 == ([]
    : List UInt8))) (some (true)) ((Option.bind (m_hindcastref08_Check F (T_api_State.mk v16 v19 l15_n5_f2 l64_n5_f3 ((IntKind.wrap .u16 v103),
    (IntKind.wrap .u16 v108)))) fun v127 => some ((v127 != (0 : Int)))))) fun v129 => (cond v129 (some ((T_api_State.mk (0 : Int) (0 : Int)
    ((T_api_Player.mk (0 : Int) (0 : Int) (0 : Int) (0 : Int) (0 : Int) (0 : Int) (0 : Int)), (T_api_Player.mk (0 : Int) (0 : Int) (0 : Int) (0 : Int)
    (0 : Int) (0 : Int) (0 : Int))) ([] : List T_api_Shot) ((0 : Int), (0 : Int))), (4 : Int))) (some ((T_api_State.mk v16 v19 l15_n5_f2 l64_n5_f3
    ((IntKind.wrap .u16 v103), (IntKind.wrap .u16 v108))), (0 : Int))))))))))))))))

def m_hindcastref08_Same_L14 (F : Nat) (p0 : T_api_State) (p1 : T_api_State) : Nat → Int → Option ((Bool) ⊕ (Bool))
  | 0, _ => none
  | n + 1, j15_5 =>
      (cond (decide (j15_5 < (p0.Shots.length : Int))) (Option.bind (getI p0.Shots j15_5) fun v62 => (Option.bind (getI p1.Shots j15_5) fun v67 =>
        (cond (!((v62.X == v67.X) && ((v62.Y == v67.Y) && ((v62.VX == v67.VX) && ((v62.VY == v67.VY) && ((v62.Owner == v67.Owner) && (v62.Life ==
        v67.Life))))))) (some (.inr false)) (m_hindcastref08_Same_L14 F p0 p1 n (IntKind.wrap .i64 (j15_5 + (1 : Int))))))) (some (.inl false)))

def m_hindcastref08_Same (F : Nat) (p0 : T_api_State) (p1 : T_api_State) : Option (Bool) :=
  (Option.bind (cond (p0.Frame != p1.Frame) (some (true)) (some ((p0.Seed != p1.Seed)))) fun v17 => (Option.bind (cond v17 (some (true)) (some
    ((!((p0.Players.1.X == p1.Players.1.X) && ((p0.Players.1.Y == p1.Players.1.Y) && ((p0.Players.1.VX == p1.Players.1.VX) && ((p0.Players.1.VY ==
    p1.Players.1.VY) && ((p0.Players.1.Health == p1.Players.1.Health) && ((p0.Players.1.Cool == p1.Players.1.Cool) && (p0.Players.1.Face ==
    p1.Players.1.Face))))))))))) fun v26 => (Option.bind (cond v26 (some (true)) (some ((!((p0.Players.2.X == p1.Players.2.X) && ((p0.Players.2.Y ==
    p1.Players.2.Y) && ((p0.Players.2.VX == p1.Players.2.VX) && ((p0.Players.2.VY == p1.Players.2.VY) && ((p0.Players.2.Health == p1.Players.2.Health)
    && ((p0.Players.2.Cool == p1.Players.2.Cool) && (p0.Players.2.Face == p1.Players.2.Face))))))))))) fun v35 => (Option.bind (cond v35 (some (true))
    (some ((!((p0.Score.1 == p1.Score.1) && (p0.Score.2 == p1.Score.2)))))) fun v42 => (Option.bind (cond v42 (some (true)) (some (((p0.Shots.length :
    Int) != (p1.Shots.length : Int))))) fun v51 => (cond v51 (some false) (Option.bind (m_hindcastref08_Same_L14 F p0 p1 F (0 : Int)) (orE (fun l15_4
    => some true) (fun r15 => some r15)))))))))

def m_hindcastlaw08_StateTakes (F : Nat) (p0 : (List UInt8)) : Option (Bool) :=
  (cond (decide ((1000 : Int) < (p0.length : Int))) (Option.bind (m_hindcastlaw08_works F) fun v10 => some v10) (Option.bind (m_state_Take F p0) fun
    (v13_0, v13_1) => (Option.bind (m_hindcastref08_Take F p0) fun (v18_0, v18_1) => (Option.bind (m_hindcastref08_Same F v13_0 v18_0) fun v23 =>
    (Option.bind (cond v23 (some ((v13_1 == v18_1))) (some (false))) fun v28 => (Option.bind (cond v28 ((Option.bind (m_hindcastlaw08_works F) fun v30
    => some (v30))) (some (false))) fun v31 => some v31))))))

end Go.Proofs.YtekplmhmppdpcaaDoor
