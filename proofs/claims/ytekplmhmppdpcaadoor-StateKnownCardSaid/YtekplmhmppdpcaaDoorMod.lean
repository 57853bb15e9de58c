/-
  Models of the functions of the chapter: what each computes, as a Lean function (none: it is not said). Printed by a program of this claim's own.
-/
import Derived.Test.YtekplmhmppdpcaaDoorEng5
namespace Go.Proofs.YtekplmhmppdpcaaDoor
open Go.Proofs.YtekplmhmppdpcaaDoor.Eng
set_option linter.unusedVariables false
set_option linter.unusedSimpArgs false

structure T_api_Shot where
  X : Int
  Y : Int
  VX : Int
  VY : Int
  Owner : Int
  Life : Int
theorem T_api_Shot.eta (x : T_api_Shot) : T_api_Shot.mk x.X x.Y x.VX x.VY x.Owner x.Life = x := rfl

def c_T_api_Shot (x : T_api_Shot) : List Value := [.int .i32 x.X, .int .i32 x.Y, .int .i32 x.VX, .int .i32 x.VY, .int .u8 x.Owner, .int .u8 x.Life]
theorem c_T_api_Shot_len (x : T_api_Shot) : (c_T_api_Shot x).length = 6 := rfl

structure T_api_Player where
  X : Int
  Y : Int
  VX : Int
  VY : Int
  Health : Int
  Cool : Int
  Face : Int
theorem T_api_Player.eta (x : T_api_Player) : T_api_Player.mk x.X x.Y x.VX x.VY x.Health x.Cool x.Face = x := rfl

def c_T_api_Player (x : T_api_Player) : List Value := [.int .i32 x.X, .int .i32 x.Y, .int .i32 x.VX, .int .i32 x.VY, .int .u8 x.Health, .int .u8 x.Cool, .int .u8 x.Face]
theorem c_T_api_Player_len (x : T_api_Player) : (c_T_api_Player x).length = 7 := rfl

structure T_api_State where
  Frame : Int
  Seed : Int
  Players : (T_api_Player × T_api_Player)
  Shots : (List T_api_Shot)
  Score : (Int × Int)
theorem T_api_State.eta (x : T_api_State) : T_api_State.mk x.Frame x.Seed x.Players x.Shots x.Score = x := rfl

def gl_state_playerBounds : List Value := [.int .i32 (0 : Int), .int .i32 (61440 : Int), .int .i32 (0 : Int), .int .i32 (28672 : Int), .int .i32 ((-1024) : Int), .int .i32 (1024 : Int), .int .i32 ((-1024) : Int), .int .i32 (1024 : Int), .int .i32 (1 : Int), .int .i32 (100 : Int), .int .i32 (0 : Int), .int .i32 (30 : Int), .int .i32 (0 : Int), .int .i32 (3 : Int)]

def gl_state_shotBounds : List Value := [.int .i32 (0 : Int), .int .i32 (65024 : Int), .int .i32 (0 : Int), .int .i32 (32256 : Int), .int .i32 ((-2048) : Int), .int .i32 (2048 : Int), .int .i32 ((-2048) : Int), .int .i32 (2048 : Int), .int .i32 (0 : Int), .int .i32 (1 : Int), .int .i32 (1 : Int), .int .i32 (40 : Int)]

structure T_codec_Writer where
  b : (List Int)
theorem T_codec_Writer.eta (x : T_codec_Writer) : T_codec_Writer.mk x.b = x := rfl

structure T_codec_left where
  s : (List UInt8)
  e : Int
theorem T_codec_left.eta (x : T_codec_left) : T_codec_left.mk x.s x.e = x := rfl

def c_T_codec_left (x : T_codec_left) : List Value := [.string ⟨x.s.toArray⟩, .int .i64 x.e]
theorem c_T_codec_left_len (x : T_codec_left) : (c_T_codec_left x).length = 2 := rfl

structure T_codec_Reader where
  left : T_codec_left
theorem T_codec_Reader.eta (x : T_codec_Reader) : T_codec_Reader.mk x.left = x := rfl

def c_T_codec_Reader (x : T_codec_Reader) : List Value := [.string ⟨x.left.s.toArray⟩, .int .i64 x.left.e]
theorem c_T_codec_Reader_len (x : T_codec_Reader) : (c_T_codec_Reader x).length = 2 := rfl

def cg_T_api_State (p : T_api_State × G) : List Value := [.int .u64 p.1.Frame, .int .u64 p.1.Seed, .int .i32 p.1.Players.1.X, .int .i32 p.1.Players.1.Y, .int .i32 p.1.Players.1.VX, .int .i32 p.1.Players.1.VY, .int .u8 p.1.Players.1.Health, .int .u8 p.1.Players.1.Cool, .int .u8 p.1.Players.1.Face, .int .i32 p.1.Players.2.X, .int .i32 p.1.Players.2.Y, .int .i32 p.1.Players.2.VX, .int .i32 p.1.Players.2.VY, .int .u8 p.1.Players.2.Health, .int .u8 p.1.Players.2.Cool, .int .u8 p.1.Players.2.Face, .slice p.2.1 p.2.2.1 p.2.2.2, .int .u16 p.1.Score.1, .int .u16 p.1.Score.2]
theorem cg_T_api_State_len (p : T_api_State × G) : (cg_T_api_State p).length = 19 := rfl
def sh_T_api_State (x : T_api_State) : List T_api_Shot := x.Shots

@[reducible] def pl7 (x : T_api_Player) (t : List Value) : List Value := .int .i32 x.X :: .int .i32 x.Y :: .int .i32 x.VX :: .int .i32 x.VY :: .int .u8 x.Health :: .int .u8 x.Cool :: .int .u8 x.Face :: t
@[reducible] def pl14 (x : T_api_Player × T_api_Player) (t : List Value) : List Value := pl7 x.1 (pl7 x.2 t)
@[reducible] def agP (x : T_api_Player) : Value := .agg #[.int .i32 x.X, .int .i32 x.Y, .int .i32 x.VX, .int .i32 x.VY, .int .u8 x.Health, .int .u8 x.Cool, .int .u8 x.Face]
@[reducible] def agS (x : T_api_State) (a : Option Addr) (n c : Nat) : Value := .agg #[.int .u64 x.Frame, .int .u64 x.Seed, .int .i32 x.Players.1.X, .int .i32 x.Players.1.Y, .int .i32 x.Players.1.VX, .int .i32 x.Players.1.VY, .int .u8 x.Players.1.Health, .int .u8 x.Players.1.Cool, .int .u8 x.Players.1.Face, .int .i32 x.Players.2.X, .int .i32 x.Players.2.Y, .int .i32 x.Players.2.VX, .int .i32 x.Players.2.VY, .int .u8 x.Players.2.Health, .int .u8 x.Players.2.Cool, .int .u8 x.Players.2.Face, .slice a n c, .int .u16 x.Score.1, .int .u16 x.Score.2]
@[reducible] def st19 (x : T_api_State) (a : Option Addr) (n c : Nat) (t : List Value) : List Value := .int .u64 x.Frame :: .int .u64 x.Seed :: pl14 x.Players (.slice a n c :: .int .u16 x.Score.1 :: .int .u16 x.Score.2 :: t)
def m_state_Start_L8 (F : Nat) : Nat → Int → (T_api_Player × T_api_Player) → Option ((T_api_Player × T_api_Player))
  | 0, _, _ => none
  | n + 1, za, zb =>
      (cond (decide (za < (2 : Int))) (cond (za == (0 : Int)) (m_state_Start_L8 F n (IntKind.wrap .i64 (za + (1 : Int))) ((T_api_Player.mk
        (IntKind.wrap .i32 ((8192 : Int) + (IntKind.wrap .i32 ((IntKind.wrap .i32 za) * (45056 : Int))))) (14336 : Int) (0 : Int) (0 : Int) (100 :
        Int) (0 : Int) (IntKind.wrap .u8 za)), zb.2)) (cond (za == (1 : Int)) (m_state_Start_L8 F n (IntKind.wrap .i64 (za + (1 : Int)))
        (zb.1, (T_api_Player.mk (IntKind.wrap .i32 ((8192 : Int) + (IntKind.wrap .i32 ((IntKind.wrap .i32 za) * (45056 : Int))))) (14336 :
        Int) (0 : Int) (0 : Int) (100 : Int) (0 : Int) (IntKind.wrap .u8 za)))) none)) (some zb))

def m_state_Start (F : Nat) (p0 : Int) : Option (T_api_State) :=
  (Option.bind (m_state_Start_L8 F F (0 : Int) ((T_api_Player.mk (0 : Int) (0 : Int) (0 : Int) (0 : Int) (0 : Int) (0 : Int) (0 : Int)),
    (T_api_Player.mk (0 : Int) (0 : Int) (0 : Int) (0 : Int) (0 : Int) (0 : Int) (0 : Int)))) fun za => some (T_api_State.mk (0 : Int) p0
    za ([] : List T_api_Shot) ((0 : Int), (0 : Int))))

def m_state_ofPlayer (F : Nat) (p0 : T_api_Player) : Option ((List Int)) :=
  some ([p0.X, p0.Y, p0.VX, p0.VY, (IntKind.wrap .i32 p0.Health), (IntKind.wrap .i32 p0.Cool), (IntKind.wrap .i32 p0.Face)] : List Int)

def m_state_within_L6 (F : Nat) (p0 : (List Int)) (p1 : (List (Int × Int))) : Nat → Int → Option ((Bool) ⊕ (Bool))
  | 0, _ => none
  | n + 1, za =>
      (cond (decide (za < (p0.length : Int))) (Option.bind (getI p0 za) fun v13 => (Option.bind (getI p1 za) fun v17 => (Option.bind (cond
        (decide (v13 < v17.1)) (some (true)) ((Option.bind (getI p0 za) fun v24 => (Option.bind (getI p1 za) fun v28 => some ((decide (v28.2 <
        v24))))))) fun v32 => (cond v32 (some (.inr false)) (m_state_within_L6 F p0 p1 n (IntKind.wrap .i64 (za + (1 : Int)))))))) (some (.inl
        false)))

def m_state_within (F : Nat) (p0 : (List Int)) (p1 : (List (Int × Int))) : Option (Bool) :=
  (Option.bind (m_state_within_L6 F p0 p1 F (0 : Int)) (orE (fun za => some true) (fun r7 => some r7)))

def m_state_ofShot (F : Nat) (p0 : T_api_Shot) : Option ((List Int)) :=
  some ([p0.X, p0.Y, p0.VX, p0.VY, (IntKind.wrap .i32 p0.Owner), (IntKind.wrap .i32 p0.Life)] : List Int)

def m_state_Check_1 (F : Nat) (p0 : T_api_Shot) (p1 : (Arr (Int × Int) 6)) : Option (Bool) :=
  (Option.bind (m_state_ofShot F p0) fun v5 => (Option.bind (m_state_within F v5 p1.1) fun v7 => some (!v7)))

def m_slices_IndexFunc___api_Shot_api_Shot_f1_state_Check_1_L6 (F : Nat) (p0 : (List T_api_Shot)) (p1c0 : (Arr (Int × Int) 6)) : Nat → Int → Option ((Int) ⊕ (Int))
  | 0, _ => none
  | n + 1, za =>
      (cond (decide (za < (p0.length : Int))) (Option.bind (getI p0 za) fun v14 => (Option.bind (m_state_Check_1 F v14 p1c0) fun v16 => (cond v16
        (some (.inr za)) (m_slices_IndexFunc___api_Shot_api_Shot_f1_state_Check_1_L6 F p0 p1c0 n (IntKind.wrap .i64 (za + (1 : Int))))))) (some
        (.inl (0 : Int))))

def m_slices_IndexFunc___api_Shot_api_Shot_f1_state_Check_1 (F : Nat) (p0 : (List T_api_Shot)) (p1c0 : (Arr (Int × Int) 6)) : Option (Int) :=
  (Option.bind (m_slices_IndexFunc___api_Shot_api_Shot_f1_state_Check_1_L6 F p0 p1c0 F (0 : Int)) (orE (fun za => some (-1 : Int)) (fun r7 => some
    r7)))

def m_slices_ContainsFunc___api_Shot_api_Shot_f1_state_Check_1 (F : Nat) (p0 : (List T_api_Shot)) (p1c0 : (Arr (Int × Int) 6)) : Option (Bool) :=
  (Option.bind (m_slices_IndexFunc___api_Shot_api_Shot_f1_state_Check_1 F p0 p1c0) fun v7 => some (decide ((0 : Int) ≤ v7)))

def m_state_Check_L10 (F : Nat) (p0 : T_api_State) : Nat → Bool → Int → Option (Bool)
  | 0, _, _ => none
  | n + 1, zb, za =>
      (cond (decide (za < (2 : Int))) (cond (za == (0 : Int)) ((Option.bind (cond zb ((Option.bind (m_state_ofPlayer F p0.Players.1) fun
        v22 => (Option.bind (m_state_within F v22 ([((0 : Int), (61440 : Int)), ((0 : Int), (28672 : Int)), (((-1024) : Int), (1024 : Int)), (((-1024)
        : Int), (1024 : Int)), ((1 : Int), (100 : Int)), ((0 : Int), (30 : Int)), ((0 : Int), (3 : Int))] : List (Int × Int))) fun v24 => some
        (v24)))) (some (false))) fun v25 => m_state_Check_L10 F p0 n v25 (IntKind.wrap .i64 (za + (1 : Int))))) (cond (za == (1 : Int))
        ((Option.bind (cond zb ((Option.bind (m_state_ofPlayer F p0.Players.2) fun v22 => (Option.bind (m_state_within F v22 ([((0 : Int), (61440 :
        Int)), ((0 : Int), (28672 : Int)), (((-1024) : Int), (1024 : Int)), (((-1024) : Int), (1024 : Int)), ((1 : Int), (100 : Int)), ((0 : Int), (30
        : Int)), ((0 : Int), (3 : Int))] : List (Int × Int))) fun v24 => some (v24)))) (some (false))) fun v25 => m_state_Check_L10 F p0 n v25
        (IntKind.wrap .i64 (za + (1 : Int))))) none)) (some zb))

def m_state_Check (F : Nat) (p0 : T_api_State) : Option (Int) :=
  (Option.bind (m_state_Check_L10 F p0 F (decide ((p0.Shots.length : Int) ≤ (8 : Int))) (0 : Int)) fun za => (Option.bind (cond (!za) (some
    (true)) ((Option.bind (m_slices_ContainsFunc___api_Shot_api_Shot_f1_state_Check_1 F p0.Shots (⟨[((0 : Int), (65024 : Int)), ((0 : Int), (32256 :
    Int)), (((-2048) : Int), (2048 : Int)), (((-2048) : Int), (2048 : Int)), ((0 : Int), (1 : Int)), ((1 : Int), (40 : Int))], rfl⟩ : Arr (Int × Int)
    6)) fun v33 => some (v33)))) fun v34 => (cond v34 (some (4 : Int)) (some (0 : Int)))))

def m_codec_put_uint64_L9 (F : Nat) (p1 : Int) (p2 : Int) : Nat → Int → (List Int) → Option ((List Int))
  | 0, _, _ => none
  | n + 1, zb, za =>
      (cond (decide (zb < p2)) (Option.bind (shrI .u64 p1 (IntKind.wrap .i64 ((8 : Int) * zb))) fun v21 => (Option.bind (appI za
        ([(IntKind.wrap .u8 v21)] : List Int)) fun v24 => m_codec_put_uint64_L9 F p1 p2 n (IntKind.wrap .i64 (zb + (1 : Int))) v24)) (some
        za))

def m_codec_put_uint64 (F : Nat) (p0 : T_codec_Writer) (p1 : Int) (p2 : Int) : Option (T_codec_Writer) :=
  (Option.bind (m_codec_put_uint64_L9 F p1 p2 F (0 : Int) p0.b) fun za => some (T_codec_Writer.mk za))

def m_codec_Writer_U64 (F : Nat) (p0 : T_codec_Writer) (p1 : Int) : Option (T_codec_Writer) :=
  (Option.bind (m_codec_put_uint64 F p0 p1 (8 : Int)) fun za => some za)

def m_codec_put_uint32_L9 (F : Nat) (p1 : Int) (p2 : Int) : Nat → Int → (List Int) → Option ((List Int))
  | 0, _, _ => none
  | n + 1, zb, za =>
      (cond (decide (zb < p2)) (Option.bind (shrI .u64 (IntKind.wrap .u64 p1) (IntKind.wrap .i64 ((8 : Int) * zb))) fun v22 => (Option.bind
        (appI za ([(IntKind.wrap .u8 v22)] : List Int)) fun v25 => m_codec_put_uint32_L9 F p1 p2 n (IntKind.wrap .i64 (zb + (1 : Int)))
        v25)) (some za))

def m_codec_put_uint32 (F : Nat) (p0 : T_codec_Writer) (p1 : Int) (p2 : Int) : Option (T_codec_Writer) :=
  (Option.bind (m_codec_put_uint32_L9 F p1 p2 F (0 : Int) p0.b) fun za => some (T_codec_Writer.mk za))

def m_codec_Writer_I32 (F : Nat) (p0 : T_codec_Writer) (p1 : Int) : Option (T_codec_Writer) :=
  (Option.bind (m_codec_put_uint32 F p0 (IntKind.wrap .u32 p1) (4 : Int)) fun za => some za)

def m_codec_put_uint8_L9 (F : Nat) (p1 : Int) (p2 : Int) : Nat → Int → (List Int) → Option ((List Int))
  | 0, _, _ => none
  | n + 1, zb, za =>
      (cond (decide (zb < p2)) (Option.bind (shrI .u64 (IntKind.wrap .u64 p1) (IntKind.wrap .i64 ((8 : Int) * zb))) fun v22 => (Option.bind
        (appI za ([(IntKind.wrap .u8 v22)] : List Int)) fun v25 => m_codec_put_uint8_L9 F p1 p2 n (IntKind.wrap .i64 (zb + (1 : Int)))
        v25)) (some za))

def m_codec_put_uint8 (F : Nat) (p0 : T_codec_Writer) (p1 : Int) (p2 : Int) : Option (T_codec_Writer) :=
  (Option.bind (m_codec_put_uint8_L9 F p1 p2 F (0 : Int) p0.b) fun za => some (T_codec_Writer.mk za))

def m_codec_Writer_U8 (F : Nat) (p0 : T_codec_Writer) (p1 : Int) : Option (T_codec_Writer) :=
  (Option.bind (m_codec_put_uint8 F p0 p1 (1 : Int)) fun za => some za)

def m_state_put_L3 (F : Nat) (p1 : (List Int)) : Nat → Int → (List Int) → Option ((List Int))
  | 0, _, _ => none
  | n + 1, zb, za =>
      (cond (decide (zb < (p1.length : Int))) (Option.bind (getI p1 zb) fun v11 => (cond (decide (zb < (4 : Int))) (Option.bind
        (m_codec_Writer_I32 F (T_codec_Writer.mk za) v11) fun zc => m_state_put_L3 F p1 n (IntKind.wrap .i64 (zb + (1 : Int))) zc.b)
        (Option.bind (m_codec_Writer_U8 F (T_codec_Writer.mk za) (IntKind.wrap .u8 v11)) fun zd => m_state_put_L3 F p1 n (IntKind.wrap .i64
        (zb + (1 : Int))) zd.b))) (some za))

def m_state_put (F : Nat) (p0 : T_codec_Writer) (p1 : (List Int)) : Option (T_codec_Writer) :=
  (Option.bind (m_state_put_L3 F p1 F (0 : Int) p0.b) fun za => some (T_codec_Writer.mk za))

def m_codec_Writer_Var_L2 (F : Nat) : Nat → Int → (List Int) → Option (Int × (List Int))
  | 0, _, _ => none
  | n + 1, zb, za =>
      (cond (decide ((127 : Int) < zb)) (Option.bind (m_codec_Writer_U8 F (T_codec_Writer.mk za) (bits .or .u8 (IntKind.wrap .u8 zb) (128 :
        Int))) fun zc => m_codec_Writer_Var_L2 F n (zb / 2 ^ (min 7 (IntKind.bits .u64))) zc.b) (some (zb, za)))

def m_codec_Writer_Var (F : Nat) (p0 : T_codec_Writer) (p1 : Int) : Option (T_codec_Writer) :=
  (Option.bind (m_codec_Writer_Var_L2 F F p1 p0.b) fun (zc, za) => (Option.bind (m_codec_Writer_U8 F (T_codec_Writer.mk za)
    (IntKind.wrap .u8 zc)) fun zb => some zb))

def m_codec_put_uint16_L9 (F : Nat) (p1 : Int) (p2 : Int) : Nat → Int → (List Int) → Option ((List Int))
  | 0, _, _ => none
  | n + 1, zb, za =>
      (cond (decide (zb < p2)) (Option.bind (shrI .u64 (IntKind.wrap .u64 p1) (IntKind.wrap .i64 ((8 : Int) * zb))) fun v22 => (Option.bind
        (appI za ([(IntKind.wrap .u8 v22)] : List Int)) fun v25 => m_codec_put_uint16_L9 F p1 p2 n (IntKind.wrap .i64 (zb + (1 : Int)))
        v25)) (some za))

def m_codec_put_uint16 (F : Nat) (p0 : T_codec_Writer) (p1 : Int) (p2 : Int) : Option (T_codec_Writer) :=
  (Option.bind (m_codec_put_uint16_L9 F p1 p2 F (0 : Int) p0.b) fun za => some (T_codec_Writer.mk za))

def m_codec_Writer_U16 (F : Nat) (p0 : T_codec_Writer) (p1 : Int) : Option (T_codec_Writer) :=
  (Option.bind (m_codec_put_uint16 F p0 p1 (2 : Int)) fun za => some za)

def m_codec_Writer_Bytes (F : Nat) (p0 : T_codec_Writer) : Option ((List UInt8)) :=
  some (toB p0.b)

def m_state_Put_L20 (F : Nat) (p0 : T_api_State) : Nat → Int → (List Int) → Option ((List Int))
  | 0, _, _ => none
  | n + 1, za, zb =>
      (cond (decide (za < (2 : Int))) (cond (za == (0 : Int)) ((Option.bind (m_state_ofPlayer F p0.Players.1) fun v25 => (Option.bind
        (m_state_put F (T_codec_Writer.mk zb) v25) fun zc => m_state_Put_L20 F p0 n (IntKind.wrap .i64 (za + (1 : Int))) zc.b)))
        (cond (za == (1 : Int)) ((Option.bind (m_state_ofPlayer F p0.Players.2) fun v25 => (Option.bind (m_state_put F (T_codec_Writer.mk
        zb) v25) fun zc => m_state_Put_L20 F p0 n (IntKind.wrap .i64 (za + (1 : Int))) zc.b))) none)) (some zb))

def m_state_Put_L39 (F : Nat) (p0 : T_api_State) : Nat → Int → (List Int) → Option ((List Int))
  | 0, _, _ => none
  | n + 1, zb, za =>
      (cond (decide (zb < (p0.Shots.length : Int))) (Option.bind (getI p0.Shots zb) fun v38 => (Option.bind (m_state_ofShot F v38) fun v41 =>
        (Option.bind (m_state_put F (T_codec_Writer.mk za) v41) fun zc => m_state_Put_L39 F p0 n (IntKind.wrap .i64 (zb + (1 : Int)))
        zc.b))) (some za))

def m_state_Put_L56 (F : Nat) (p0 : T_api_State) : Nat → Int → (List Int) → Option ((List Int))
  | 0, _, _ => none
  | n + 1, za, zb =>
      (cond (decide (za < (2 : Int))) (cond (za == (0 : Int)) ((Option.bind (m_codec_Writer_U16 F (T_codec_Writer.mk zb) p0.Score.1)
        fun zc => m_state_Put_L56 F p0 n (IntKind.wrap .i64 (za + (1 : Int))) zc.b)) (cond (za == (1 : Int)) ((Option.bind
        (m_codec_Writer_U16 F (T_codec_Writer.mk zb) p0.Score.2) fun zc => m_state_Put_L56 F p0 n (IntKind.wrap .i64 (za + (1 : Int)))
        zc.b)) none)) (some zb))

def m_state_Put (F : Nat) (p0 : T_api_State) : Option ((List UInt8)) :=
  (Option.bind (m_state_Check F p0) fun v11 => (cond (v11 != (0 : Int)) (some ([] : List UInt8)) (Option.bind (m_codec_Writer_U64 F (T_codec_Writer.mk
    ([] : List Int)) p0.Frame) fun zd => (Option.bind (m_codec_Writer_U64 F zd p0.Seed) fun ze => (Option.bind (m_state_Put_L20 F p0 F (0 :
    Int) ze.b) fun za => (Option.bind (m_codec_Writer_Var F (T_codec_Writer.mk za) (IntKind.wrap .u64 (p0.Shots.length : Int))) fun
    zf => (Option.bind (m_state_Put_L39 F p0 F (0 : Int) zf.b) fun zb => (Option.bind (m_state_Put_L56 F p0 F (0 : Int) zb) fun
    zc => (Option.bind (m_codec_Writer_Bytes F (T_codec_Writer.mk zc)) fun v52 => some v52)))))))))

def m_hindcastlaw08_first (F : Nat) : Option (T_api_State) :=
  (Option.bind (m_state_Start F (1 : Int)) fun v2 => some (T_api_State.mk v2.Frame v2.Seed v2.Players ([(T_api_Shot.mk (5 : Int) (6 : Int) (-2048 :
    Int) (2048 : Int) (1 : Int) (40 : Int))] : List T_api_Shot) v2.Score))

def m_codec_New (F : Nat) (p0 : (List UInt8)) : Option (T_codec_Reader) :=
  some (T_codec_Reader.mk (T_codec_left.mk p0 (0 : Int)))

def m_codec_left_fail (F : Nat) (p0 : T_codec_left) (p1 : Int) : Option (T_codec_left) :=
  (cond (p0.e == (0 : Int)) (some (T_codec_left.mk ([] : List UInt8) p1)) (some p0))

def m_codec_left_take (F : Nat) (p0 : T_codec_left) (p1 : Int) : Option (T_codec_left × (List UInt8) × Bool) :=
  (cond (p0.e != (0 : Int)) (some (p0, ([] : List UInt8), false)) (cond (decide ((IntKind.wrap .u64 (p0.s.length : Int)) < p1)) (Option.bind
    (m_codec_left_fail F p0 (10 : Int)) fun za => some (za, ([] : List UInt8), false)) (Option.bind (cutI p0.s 0 p1) fun v27 => (Option.bind
    (cutI p0.s p1 (p0.s.length : Int)) fun v34 => some ((T_codec_left.mk v34 p0.e), v27, true)))))

def m_codec_get_uint64_L16 (F : Nat) (zb : (List UInt8)) : Nat → Int → Int → Option (Int)
  | 0, _, _ => none
  | n + 1, zc, za =>
      (cond (decide (za < (zb.length : Int))) (Option.bind (getI zb za) fun v27 => (Option.bind (shlI .u64 (IntKind.wrap .u64 (v27.toNat
        : Int)) (IntKind.wrap .i64 ((8 : Int) * za))) fun v31 => m_codec_get_uint64_L16 F zb n (bits .or .u64 zc v31) (IntKind.wrap .i64
        (za + (1 : Int))))) (some zc))

def m_codec_get_uint64 (F : Nat) (p0 : T_codec_Reader) (p1 : Int) : Option (T_codec_Reader × Int) :=
  (Option.bind (m_codec_left_take F p0.left (IntKind.wrap .u64 p1)) fun (zb, zc, zd) => (Option.bind (m_codec_get_uint64_L16 F zc F (0 :
    Int) (0 : Int)) fun za => some ((T_codec_Reader.mk zb), za)))

def m_codec_Reader_U64 (F : Nat) (p0 : T_codec_Reader) : Option (T_codec_Reader × Int) :=
  (Option.bind (m_codec_get_uint64 F p0 (8 : Int)) fun (za, v4) => some (za, v4))

def m_codec_get_uint32_L16 (F : Nat) (zb : (List UInt8)) : Nat → Int → Int → Option (Int)
  | 0, _, _ => none
  | n + 1, zc, za =>
      (cond (decide (za < (zb.length : Int))) (Option.bind (getI zb za) fun v27 => (Option.bind (shlI .u64 (IntKind.wrap .u64 (v27.toNat
        : Int)) (IntKind.wrap .i64 ((8 : Int) * za))) fun v31 => m_codec_get_uint32_L16 F zb n (bits .or .u32 zc (IntKind.wrap .u32 v31))
        (IntKind.wrap .i64 (za + (1 : Int))))) (some zc))

def m_codec_get_uint32 (F : Nat) (p0 : T_codec_Reader) (p1 : Int) : Option (T_codec_Reader × Int) :=
  (Option.bind (m_codec_left_take F p0.left (IntKind.wrap .u64 p1)) fun (zb, zc, zd) => (Option.bind (m_codec_get_uint32_L16 F zc F (0 :
    Int) (0 : Int)) fun za => some ((T_codec_Reader.mk zb), za)))

def m_codec_Reader_I32 (F : Nat) (p0 : T_codec_Reader) : Option (T_codec_Reader × Int) :=
  (Option.bind (m_codec_get_uint32 F p0 (4 : Int)) fun (za, v4) => some (za, (IntKind.wrap .i32 v4)))

def m_codec_get_uint8_L16 (F : Nat) (zb : (List UInt8)) : Nat → Int → Int → Option (Int)
  | 0, _, _ => none
  | n + 1, zc, za =>
      (cond (decide (za < (zb.length : Int))) (Option.bind (getI zb za) fun v27 => (Option.bind (shlI .u64 (IntKind.wrap .u64 (v27.toNat
        : Int)) (IntKind.wrap .i64 ((8 : Int) * za))) fun v31 => m_codec_get_uint8_L16 F zb n (bits .or .u8 zc (IntKind.wrap .u8 v31))
        (IntKind.wrap .i64 (za + (1 : Int))))) (some zc))

def m_codec_get_uint8 (F : Nat) (p0 : T_codec_Reader) (p1 : Int) : Option (T_codec_Reader × Int) :=
  (Option.bind (m_codec_left_take F p0.left (IntKind.wrap .u64 p1)) fun (zb, zc, zd) => (Option.bind (m_codec_get_uint8_L16 F zc F (0 :
    Int) (0 : Int)) fun za => some ((T_codec_Reader.mk zb), za)))

def m_codec_Reader_U8 (F : Nat) (p0 : T_codec_Reader) : Option (T_codec_Reader × Int) :=
  (Option.bind (m_codec_get_uint8 F p0 (1 : Int)) fun (za, v4) => some (za, v4))

def m_state_player (F : Nat) (p0 : (List Int)) : Option (T_api_Player) :=
  (Option.bind (getI p0 (0 : Int)) fun v4 => (Option.bind (getI p0 (1 : Int)) fun v7 => (Option.bind (getI p0 (2 : Int)) fun v10 => (Option.bind (getI
    p0 (3 : Int)) fun v13 => (Option.bind (getI p0 (4 : Int)) fun v16 => (Option.bind (getI p0 (5 : Int)) fun v20 => (Option.bind (getI p0 (6 : Int))
    fun v24 => some (T_api_Player.mk v4 v7 v10 v13 (IntKind.wrap .u8 v16) (IntKind.wrap .u8 v20) (IntKind.wrap .u8 v24)))))))))

def m_state_take_api_Player_f2_state_player_L8 (F : Nat) (p1 : Int) : Nat → Int → (List Int) → T_codec_Reader → Option ((List Int) × T_codec_Reader)
  | 0, _, _, _ => none
  | n + 1, za, zb, zc =>
      (cond (decide (za < p1)) (cond (decide (za < (4 : Int))) (Option.bind (m_codec_Reader_I32 F zc) fun (zd, v20) => (Option.bind (getI
        zb za) fun v21 => m_state_take_api_Player_f2_state_player_L8 F p1 n (IntKind.wrap .i64 (za + (1 : Int))) (setI zb za v20) zd))
        (Option.bind (m_codec_Reader_U8 F zc) fun (ze, v25) => (Option.bind (getI zb za) fun v27 =>
        m_state_take_api_Player_f2_state_player_L8 F p1 n (IntKind.wrap .i64 (za + (1 : Int))) (setI zb za (IntKind.wrap .i32 v25)) ze)))
        (some (zb, zc)))

def m_state_take_api_Player_f2_state_player (F : Nat) (p0 : T_codec_Reader) (p1 : Int) : Option (T_codec_Reader × T_api_Player) :=
  (Option.bind (mkI p1 (0 : Int)) fun v10 => (Option.bind (m_state_take_api_Player_f2_state_player_L8 F p1 F (0 : Int) v10 p0) fun (zb, za) =>
    (Option.bind (m_state_player F zb) fun v31 => some (za, v31))))

def m_codec_Reader_Var_L14 (F : Nat) : Nat → Int → Int → T_codec_Reader → Option ((Int × T_codec_Reader) ⊕ (T_codec_Reader × Int))
  | 0, _, _, _ => none
  | n + 1, zc, za, zd =>
      (cond (decide (za < (10 : Int))) (Option.bind (m_codec_left_take F zd.left (1 : Int)) fun (zb, zg, zh) => (cond (!zh) (some
        (.inr ((T_codec_Reader.mk zb), (0 : Int)))) (Option.bind (getI zg (0 : Int)) fun v22 => (Option.bind (cond (za == (9 : Int)) (some
        ((decide ((1 : Int) < (v22.toNat : Int))))) (some (false))) fun v29 => (cond v29 (Option.bind (m_codec_left_fail F zb (3 : Int)) fun ze
        => some (.inr ((T_codec_Reader.mk ze), (0 : Int)))) (Option.bind (cond ((v22.toNat : Int) == (0 : Int)) (some ((decide ((0 : Int) <
        za)))) (some (false))) fun v40 => (cond v40 (Option.bind (m_codec_left_fail F zb (4 : Int)) fun zf => some (.inr ((T_codec_Reader.mk
        zf), (0 : Int)))) (Option.bind (shlI .u64 (IntKind.wrap .u64 (bits .and .u8 (v22.toNat : Int) (127 : Int))) (IntKind.wrap .i64 ((7 : Int) *
        za))) fun v51 => (cond (decide ((v22.toNat : Int) < (128 : Int))) (some (.inr ((T_codec_Reader.mk zb), (bits .or .u64 zc v51))))
        (m_codec_Reader_Var_L14 F n (bits .or .u64 zc v51) (IntKind.wrap .i64 (za + (1 : Int))) (T_codec_Reader.mk zb))))))))))) (some (.inl
        (zc, zd))))

def m_codec_Reader_Var (F : Nat) (p0 : T_codec_Reader) : Option (T_codec_Reader × Int) :=
  (Option.bind (m_codec_Reader_Var_L14 F F (0 : Int) (0 : Int) p0) (orE (fun (zb, za) => some (za, zb)) (fun r15 => some r15)))

def m_state_shot (F : Nat) (p0 : (List Int)) : Option (T_api_Shot) :=
  (Option.bind (getI p0 (0 : Int)) fun v4 => (Option.bind (getI p0 (1 : Int)) fun v7 => (Option.bind (getI p0 (2 : Int)) fun v10 => (Option.bind (getI
    p0 (3 : Int)) fun v13 => (Option.bind (getI p0 (4 : Int)) fun v16 => (Option.bind (getI p0 (5 : Int)) fun v20 => some (T_api_Shot.mk v4 v7 v10 v13
    (IntKind.wrap .u8 v16) (IntKind.wrap .u8 v20))))))))

def m_state_take_api_Shot_f2_state_shot_L8 (F : Nat) (p1 : Int) : Nat → Int → (List Int) → T_codec_Reader → Option ((List Int) × T_codec_Reader)
  | 0, _, _, _ => none
  | n + 1, za, zb, zc =>
      (cond (decide (za < p1)) (cond (decide (za < (4 : Int))) (Option.bind (m_codec_Reader_I32 F zc) fun (zd, v20) => (Option.bind (getI
        zb za) fun v21 => m_state_take_api_Shot_f2_state_shot_L8 F p1 n (IntKind.wrap .i64 (za + (1 : Int))) (setI zb za v20) zd))
        (Option.bind (m_codec_Reader_U8 F zc) fun (ze, v25) => (Option.bind (getI zb za) fun v27 => m_state_take_api_Shot_f2_state_shot_L8
        F p1 n (IntKind.wrap .i64 (za + (1 : Int))) (setI zb za (IntKind.wrap .i32 v25)) ze))) (some (zb, zc)))

def m_state_take_api_Shot_f2_state_shot (F : Nat) (p0 : T_codec_Reader) (p1 : Int) : Option (T_codec_Reader × T_api_Shot) :=
  (Option.bind (mkI p1 (0 : Int)) fun v10 => (Option.bind (m_state_take_api_Shot_f2_state_shot_L8 F p1 F (0 : Int) v10 p0) fun (zb, za) =>
    (Option.bind (m_state_shot F zb) fun v31 => some (za, v31))))

def m_codec_get_uint16_L16 (F : Nat) (zb : (List UInt8)) : Nat → Int → Int → Option (Int)
  | 0, _, _ => none
  | n + 1, zc, za =>
      (cond (decide (za < (zb.length : Int))) (Option.bind (getI zb za) fun v27 => (Option.bind (shlI .u64 (IntKind.wrap .u64 (v27.toNat
        : Int)) (IntKind.wrap .i64 ((8 : Int) * za))) fun v31 => m_codec_get_uint16_L16 F zb n (bits .or .u16 zc (IntKind.wrap .u16 v31))
        (IntKind.wrap .i64 (za + (1 : Int))))) (some zc))

def m_codec_get_uint16 (F : Nat) (p0 : T_codec_Reader) (p1 : Int) : Option (T_codec_Reader × Int) :=
  (Option.bind (m_codec_left_take F p0.left (IntKind.wrap .u64 p1)) fun (zb, zc, zd) => (Option.bind (m_codec_get_uint16_L16 F zc F (0 :
    Int) (0 : Int)) fun za => some ((T_codec_Reader.mk zb), za)))

def m_codec_Reader_U16 (F : Nat) (p0 : T_codec_Reader) : Option (T_codec_Reader × Int) :=
  (Option.bind (m_codec_get_uint16 F p0 (2 : Int)) fun (za, v4) => some (za, v4))

def m_codec_Reader_Err (F : Nat) (p0 : T_codec_Reader) : Option (Int) :=
  some p0.left.e

def m_codec_Reader_Rest (F : Nat) (p0 : T_codec_Reader) : Option ((List UInt8)) :=
  some p0.left.s

def m_state_Take_L10 (F : Nat) : Nat → Int → T_codec_Reader → (T_api_Player × T_api_Player) → Option (T_codec_Reader × (T_api_Player × T_api_Player))
  | 0, _, _, _ => none
  | n + 1, za, zc, zb =>
      (cond (decide (za < (2 : Int))) (Option.bind (m_state_take_api_Player_f2_state_player F zc (7 : Int)) fun (zd, v21) => (cond
        (za == (0 : Int)) (m_state_Take_L10 F n (IntKind.wrap .i64 (za + (1 : Int))) zd (v21, zb.2)) (cond (za == (1 : Int))
        (m_state_Take_L10 F n (IntKind.wrap .i64 (za + (1 : Int))) zd (zb.1, v21)) none))) (some (zc, zb)))

def m_state_Take_L37 (F : Nat) (v26 : Int) : Nat → Int → T_codec_Reader → (List T_api_Shot) → Option (T_codec_Reader × (List T_api_Shot))
  | 0, _, _, _ => none
  | n + 1, zc, za, zb =>
      (cond (decide (zc < v26)) (Option.bind (m_state_take_api_Shot_f2_state_shot F za (6 : Int)) fun (zd, v36) => (Option.bind (appI
        zb ([v36] : List T_api_Shot)) fun v38 => m_state_Take_L37 F v26 n (IntKind.wrap .u64 (zc + (1 : Int))) zd v38)) (some
        (za, zb)))

def m_state_Take_L52 (F : Nat) : Nat → Int → T_codec_Reader → (Int × Int) → Option (T_codec_Reader × (Int × Int))
  | 0, _, _, _ => none
  | n + 1, za, zc, zb =>
      (cond (decide (za < (2 : Int))) (Option.bind (m_codec_Reader_U16 F zc) fun (zd, v46) => (cond (za == (0 : Int))
        (m_state_Take_L52 F n (IntKind.wrap .i64 (za + (1 : Int))) zd (v46, zb.2)) (cond (za == (1 : Int)) (m_state_Take_L52 F n
        (IntKind.wrap .i64 (za + (1 : Int))) zd (zb.1, v46)) none))) (some (zc, zb)))

def m_state_Take (F : Nat) (p0 : (List UInt8)) : Option (T_api_State × Int) :=
  (Option.bind (m_codec_New F p0) fun v10 => (Option.bind (m_codec_Reader_U64 F v10) fun (zg, v12) => (Option.bind (m_codec_Reader_U64 F zg) fun
    (zh, v14) => (Option.bind (m_state_Take_L10 F F (0 : Int) zh ((T_api_Player.mk (0 : Int) (0 : Int) (0 : Int) (0 : Int) (0 : Int) (0 : Int)
    (0 : Int)), (T_api_Player.mk (0 : Int) (0 : Int) (0 : Int) (0 : Int) (0 : Int) (0 : Int) (0 : Int)))) fun (ze, zb) => (Option.bind
    (m_codec_Reader_Var F ze) fun (zi, v26) => (cond (decide ((8 : Int) < v26)) (some ((T_api_State.mk (0 : Int) (0 : Int) ((T_api_Player.mk
    (0 : Int) (0 : Int) (0 : Int) (0 : Int) (0 : Int) (0 : Int) (0 : Int)), (T_api_Player.mk (0 : Int) (0 : Int) (0 : Int) (0 : Int) (0 : Int) (0 :
    Int) (0 : Int))) ([] : List T_api_Shot) ((0 : Int), (0 : Int))), (4 : Int))) (Option.bind (m_state_Take_L37 F v26 F (0 : Int) zi ([] : List
    T_api_Shot)) fun (zf, zc) => (Option.bind (m_state_Take_L52 F F (0 : Int) zf ((0 : Int), (0 : Int))) fun (za,
    zd) => (Option.bind (m_codec_Reader_Err F za) fun v52 => (cond (v52 != (0 : Int)) (Option.bind (m_codec_Reader_Err F za) fun
    v56 => some ((T_api_State.mk (0 : Int) (0 : Int) ((T_api_Player.mk (0 : Int) (0 : Int) (0 : Int) (0 : Int) (0 : Int) (0 : Int) (0 : Int)),
    (T_api_Player.mk (0 : Int) (0 : Int) (0 : Int) (0 : Int) (0 : Int) (0 : Int) (0 : Int))) ([] : List T_api_Shot) ((0 : Int), (0 : Int))), v56))
    (Option.bind (m_codec_Reader_Rest F za) fun v59 => (Option.bind (cond (!(v59 == ([] : List UInt8))) (some (true)) ((Option.bind
    (m_state_Check F (T_api_State.mk v12 v14 zb zc zd)) fun v63 => some ((v63 != (0 : Int)))))) fun v65 => (cond v65 (some
    ((T_api_State.mk (0 : Int) (0 : Int) ((T_api_Player.mk (0 : Int) (0 : Int) (0 : Int) (0 : Int) (0 : Int) (0 : Int) (0 : Int)), (T_api_Player.mk (0
    : Int) (0 : Int) (0 : Int) (0 : Int) (0 : Int) (0 : Int) (0 : Int))) ([] : List T_api_Shot) ((0 : Int), (0 : Int))), (4 : Int))) (some
    ((T_api_State.mk v12 v14 zb zc zd), (0 : Int))))))))))))))))

def m_slices_Equal___api_Shot_api_Shot_L14 (F : Nat) (p0 : (List T_api_Shot)) (p1 : (List T_api_Shot)) : Nat → Int → Option ((Bool) ⊕ (Bool))
  | 0, _ => none
  | n + 1, za =>
      (cond (decide (za < (p0.length : Int))) (Option.bind (getI p0 za) fun v18 => (Option.bind (getI p1 za) fun v22 => (cond (!((v18.X ==
        v22.X) && ((v18.Y == v22.Y) && ((v18.VX == v22.VX) && ((v18.VY == v22.VY) && ((v18.Owner == v22.Owner) && (v18.Life == v22.Life))))))) (some
        (.inr false)) (m_slices_Equal___api_Shot_api_Shot_L14 F p0 p1 n (IntKind.wrap .i64 (za + (1 : Int))))))) (some (.inl false)))

def m_slices_Equal___api_Shot_api_Shot (F : Nat) (p0 : (List T_api_Shot)) (p1 : (List T_api_Shot)) : Option (Bool) :=
  (cond ((p0.length : Int) != (p1.length : Int)) (some false) (Option.bind (m_slices_Equal___api_Shot_api_Shot_L14 F p0 p1 F (0 : Int)) (orE (fun
    za => some true) (fun r15 => some r15))))

def m_state_Same (F : Nat) (p0 : T_api_State) (p1 : T_api_State) : Option (Bool) :=
  (Option.bind (cond (p0.Frame == p1.Frame) (some ((p0.Seed == p1.Seed))) (some (false))) fun v16 => (Option.bind (cond v16 (some ((((p0.Players.1.X
    == p1.Players.1.X) && ((p0.Players.1.Y == p1.Players.1.Y) && ((p0.Players.1.VX == p1.Players.1.VX) && ((p0.Players.1.VY == p1.Players.1.VY) &&
    ((p0.Players.1.Health == p1.Players.1.Health) && ((p0.Players.1.Cool == p1.Players.1.Cool) && (p0.Players.1.Face == p1.Players.1.Face))))))) &&
    ((p0.Players.2.X == p1.Players.2.X) && ((p0.Players.2.Y == p1.Players.2.Y) && ((p0.Players.2.VX == p1.Players.2.VX) && ((p0.Players.2.VY ==
    p1.Players.2.VY) && ((p0.Players.2.Health == p1.Players.2.Health) && ((p0.Players.2.Cool == p1.Players.2.Cool) && (p0.Players.2.Face ==
    p1.Players.2.Face)))))))))) (some (false))) fun v23 => (Option.bind (cond v23 (some (((p0.Score.1 == p1.Score.1) && (p0.Score.2 == p1.Score.2))))
    (some (false))) fun v30 => (Option.bind (cond v30 ((Option.bind (m_slices_Equal___api_Shot_api_Shot F p0.Shots p1.Shots) fun v36 => some (v36)))
    (some (false))) fun v37 => some v37))))

def m_hindcastlaw08_fails (F : Nat) (p0 : (List UInt8)) (p1 : Int) : Option (Bool) :=
  (Option.bind (m_state_Take F p0) fun (za, zb) => (Option.bind (cond (zb == p1) ((Option.bind (m_state_Same F za (T_api_State.mk (0 : Int) (0
    : Int) ((T_api_Player.mk (0 : Int) (0 : Int) (0 : Int) (0 : Int) (0 : Int) (0 : Int) (0 : Int)), (T_api_Player.mk (0 : Int) (0 : Int) (0 : Int) (0
    : Int) (0 : Int) (0 : Int) (0 : Int))) ([] : List T_api_Shot) ((0 : Int), (0 : Int)))) fun v18 => some (v18))) (some (false))) fun v19 => some
    v19))

def m_hindcastlaw08_works (F : Nat) : Option (Bool) :=
  (Option.bind (m_hindcastlaw08_first F) fun v4 => (Option.bind (m_state_Put F v4) fun v5 => (Option.bind (m_state_Take F v5) fun (za, zb) =>
    (Option.bind (cond ((v5.length : Int) == (77 : Int)) (some ((zb == (0 : Int)))) (some (false))) fun v17 => (Option.bind (cond v17 ((Option.bind
    (m_hindcastlaw08_first F) fun v20 => (Option.bind (m_state_Same F za v20) fun v21 => some (v21)))) (some (false))) fun v22 => (Option.bind (cond
    v22 ((Option.bind (m_hindcastlaw08_fails F ([] : List UInt8) (10 : Int)) fun v24 => some (v24))) (some (false))) fun v25 => (Option.bind (cond v25
    ((Option.bind (m_state_Start F (1 : Int)) fun v27 => (Option.bind (m_state_Put F v27) fun v28 => some (((v28.length : Int) == (59 : Int))))))
    (some (false))) fun v31 => some v31)))))))

def m_hindcastlaw08_StateKnown (F : Nat) : Option (Bool) :=
  (Option.bind (m_state_Start F (1 : Int)) fun v9 => (Option.bind (m_state_Put F v9) fun v10 => (Option.bind (m_hindcastlaw08_works F) fun v11 =>
    (Option.bind (cond (!v11) (some (true)) (some (((v10.length : Int) != (59 : Int))))) fun v17 => (Option.bind (cond v17 (some (true)) ((Option.bind
    (cutI v10 0 (58 : Int)) fun v20 => (Option.bind (m_hindcastlaw08_fails F v20 (10 : Int)) fun v21 => some ((!v21)))))) fun v23 => (Option.bind
    (cond v23 (some (true)) ((Option.bind (appI v10 ([120] : List UInt8)) fun v26 => (Option.bind (m_hindcastlaw08_fails F v26 (4 : Int)) fun v27 =>
    some ((!v27)))))) fun v29 => (Option.bind (cond v29 (some (true)) ((Option.bind (cutI v10 0 (16 : Int)) fun v32 => (Option.bind (appI v32 ([255] :
    List UInt8)) fun v33 => (Option.bind (cutI v10 (17 : Int) (19 : Int)) fun v35 => (Option.bind (appI v33 v35) fun v36 => (Option.bind (appI v36
    ([255] : List UInt8)) fun v37 => (Option.bind (cutI v10 (20 : Int) (v10.length : Int)) fun v39 => (Option.bind (appI v37 v39) fun v40 =>
    (Option.bind (m_hindcastlaw08_fails F v40 (4 : Int)) fun v41 => some ((!v41)))))))))))) fun v43 => (Option.bind (cond v43 (some (true))
    ((Option.bind (m_hindcastlaw08_first F) fun v45 => (Option.bind (m_state_Check F v45) fun v46 => some ((v46 != (0 : Int))))))) fun v48 => (cond
    v48 (some false) (Option.bind (m_hindcastlaw08_first F) fun v100058 => (Option.bind (m_hindcastlaw08_first F) fun v200058 => (Option.bind
    (m_hindcastlaw08_first F) fun v300058 => (Option.bind (m_hindcastlaw08_first F) fun v400058 => (Option.bind (m_hindcastlaw08_first F) fun v500058
    => (Option.bind (m_hindcastlaw08_first F) fun v600058 => (Option.bind (m_hindcastlaw08_first F) fun v700058 => (Option.bind (m_hindcastlaw08_first
    F) fun v800058 => (Option.bind (m_hindcastlaw08_first F) fun v900058 => (Option.bind (mkI (9 : Int) (T_api_Shot.mk (0 : Int) (0 : Int) (0 : Int)
    (0 : Int) (0 : Int) (0 : Int))) fun v71 => (Option.bind (getI v400058.Shots (0 : Int)) fun v78 => (Option.bind (getI v700058.Shots (0 : Int)) fun
    v94 => (Option.bind (getI v800058.Shots (0 : Int)) fun v100 => (Option.bind (m_state_Check F (T_api_State.mk v100058.Frame v100058.Seed
    ((T_api_Player.mk v100058.Players.1.X v100058.Players.1.Y v100058.Players.1.VX v100058.Players.1.VY (0 : Int) v100058.Players.1.Cool
    v100058.Players.1.Face), v100058.Players.2) v100058.Shots v100058.Score)) fun v1100117 => (Option.bind (cond (v1100117 != (4 : Int)) (some (true))
    ((Option.bind (m_state_Put F (T_api_State.mk v100058.Frame v100058.Seed ((T_api_Player.mk v100058.Players.1.X v100058.Players.1.Y
    v100058.Players.1.VX v100058.Players.1.VY (0 : Int) v100058.Players.1.Cool v100058.Players.1.Face), v100058.Players.2) v100058.Shots
    v100058.Score)) fun v1100124 => some ((!(v1100124 == ([] : List UInt8))))))) fun v1100126 => (cond v1100126 (some false) (Option.bind
    (m_state_Check F (T_api_State.mk v200058.Frame v200058.Seed (v200058.Players.1, (T_api_Player.mk v200058.Players.2.X v200058.Players.2.Y (1025 :
    Int) v200058.Players.2.VY v200058.Players.2.Health v200058.Players.2.Cool v200058.Players.2.Face)) v200058.Shots v200058.Score)) fun v1200117 =>
    (Option.bind (cond (v1200117 != (4 : Int)) (some (true)) ((Option.bind (m_state_Put F (T_api_State.mk v200058.Frame v200058.Seed
    (v200058.Players.1, (T_api_Player.mk v200058.Players.2.X v200058.Players.2.Y (1025 : Int) v200058.Players.2.VY v200058.Players.2.Health
    v200058.Players.2.Cool v200058.Players.2.Face)) v200058.Shots v200058.Score)) fun v1200124 => some ((!(v1200124 == ([] : List UInt8))))))) fun
    v1200126 => (cond v1200126 (some false) (Option.bind (m_state_Check F (T_api_State.mk v300058.Frame v300058.Seed v300058.Players v71
    v300058.Score)) fun v1300117 => (Option.bind (cond (v1300117 != (4 : Int)) (some (true)) ((Option.bind (m_state_Put F (T_api_State.mk
    v300058.Frame v300058.Seed v300058.Players v71 v300058.Score)) fun v1300124 => some ((!(v1300124 == ([] : List UInt8))))))) fun v1300126 => (cond
    v1300126 (some false) (Option.bind (m_state_Check F (T_api_State.mk v400058.Frame v400058.Seed v400058.Players (setI v400058.Shots (0 : Int)
    (T_api_Shot.mk v78.X v78.Y v78.VX v78.VY v78.Owner (0 : Int))) v400058.Score)) fun v1400117 => (Option.bind (cond (v1400117 != (4 : Int)) (some
    (true)) ((Option.bind (m_state_Put F (T_api_State.mk v400058.Frame v400058.Seed v400058.Players (setI v400058.Shots (0 : Int) (T_api_Shot.mk v78.X
    v78.Y v78.VX v78.VY v78.Owner (0 : Int))) v400058.Score)) fun v1400124 => some ((!(v1400124 == ([] : List UInt8))))))) fun v1400126 => (cond
    v1400126 (some false) (Option.bind (m_state_Check F (T_api_State.mk v500058.Frame v500058.Seed ((T_api_Player.mk (61441 : Int) v500058.Players.1.Y
    v500058.Players.1.VX v500058.Players.1.VY v500058.Players.1.Health v500058.Players.1.Cool v500058.Players.1.Face), v500058.Players.2)
    v500058.Shots v500058.Score)) fun v1500117 => (Option.bind (cond (v1500117 != (4 : Int)) (some (true)) ((Option.bind (m_state_Put F
    (T_api_State.mk v500058.Frame v500058.Seed ((T_api_Player.mk (61441 : Int) v500058.Players.1.Y v500058.Players.1.VX v500058.Players.1.VY
    v500058.Players.1.Health v500058.Players.1.Cool v500058.Players.1.Face), v500058.Players.2) v500058.Shots v500058.Score)) fun v1500124 => some
    ((!(v1500124 == ([] : List UInt8))))))) fun v1500126 => (cond v1500126 (some false) (Option.bind (m_state_Check F (T_api_State.mk v600058.Frame
    v600058.Seed ((T_api_Player.mk v600058.Players.1.X (-1 : Int) v600058.Players.1.VX v600058.Players.1.VY v600058.Players.1.Health
    v600058.Players.1.Cool v600058.Players.1.Face), v600058.Players.2) v600058.Shots v600058.Score)) fun v1600117 => (Option.bind (cond (v1600117 !=
    (4 : Int)) (some (true)) ((Option.bind (m_state_Put F (T_api_State.mk v600058.Frame v600058.Seed ((T_api_Player.mk v600058.Players.1.X (-1 : Int)
    v600058.Players.1.VX v600058.Players.1.VY v600058.Players.1.Health v600058.Players.1.Cool v600058.Players.1.Face), v600058.Players.2)
    v600058.Shots v600058.Score)) fun v1600124 => some ((!(v1600124 == ([] : List UInt8))))))) fun v1600126 => (cond v1600126 (some false)
    (Option.bind (m_state_Check F (T_api_State.mk v700058.Frame v700058.Seed v700058.Players (setI v700058.Shots (0 : Int) (T_api_Shot.mk v94.X v94.Y
    v94.VX (2049 : Int) v94.Owner v94.Life)) v700058.Score)) fun v1700117 => (Option.bind (cond (v1700117 != (4 : Int)) (some (true)) ((Option.bind
    (m_state_Put F (T_api_State.mk v700058.Frame v700058.Seed v700058.Players (setI v700058.Shots (0 : Int) (T_api_Shot.mk v94.X v94.Y v94.VX (2049 :
    Int) v94.Owner v94.Life)) v700058.Score)) fun v1700124 => some ((!(v1700124 == ([] : List UInt8))))))) fun v1700126 => (cond v1700126 (some false)
    (Option.bind (m_state_Check F (T_api_State.mk v800058.Frame v800058.Seed v800058.Players (setI v800058.Shots (0 : Int) (T_api_Shot.mk v100.X
    v100.Y v100.VX v100.VY (2 : Int) v100.Life)) v800058.Score)) fun v1800117 => (Option.bind (cond (v1800117 != (4 : Int)) (some (true))
    ((Option.bind (m_state_Put F (T_api_State.mk v800058.Frame v800058.Seed v800058.Players (setI v800058.Shots (0 : Int) (T_api_Shot.mk v100.X v100.Y
    v100.VX v100.VY (2 : Int) v100.Life)) v800058.Score)) fun v1800124 => some ((!(v1800124 == ([] : List UInt8))))))) fun v1800126 => (cond v1800126
    (some false) (Option.bind (m_state_Check F (T_api_State.mk v900058.Frame v900058.Seed (v900058.Players.1, (T_api_Player.mk v900058.Players.2.X
    v900058.Players.2.Y v900058.Players.2.VX v900058.Players.2.VY v900058.Players.2.Health v900058.Players.2.Cool (4 : Int))) v900058.Shots
    v900058.Score)) fun v1900117 => (Option.bind (cond (v1900117 != (4 : Int)) (some (true)) ((Option.bind (m_state_Put F (T_api_State.mk
    v900058.Frame v900058.Seed (v900058.Players.1, (T_api_Player.mk v900058.Players.2.X v900058.Players.2.Y v900058.Players.2.VX v900058.Players.2.VY
    v900058.Players.2.Health v900058.Players.2.Cool (4 : Int))) v900058.Shots v900058.Score)) fun v1900124 => some ((!(v1900124 == ([] : List
    UInt8))))))) fun v1900126 => (cond v1900126 (some false) (Option.bind (m_hindcastlaw08_first F) fun v127 => (Option.bind (getI v127.Shots (0 :
    Int)) fun v134 => (Option.bind (m_state_Start F (1 : Int)) fun v138 => (Option.bind (m_state_Put F v138) fun v139 => (Option.bind (cutI v139 0 (54
    : Int)) fun v140 => (Option.bind (appI v140 ([9] : List UInt8)) fun v141 => (Option.bind (m_state_Put F (T_api_State.mk (18446744073709551615 :
    Int) v127.Seed ((T_api_Player.mk (61440 : Int) (28672 : Int) (-1024 : Int) (1024 : Int) (1 : Int) (30 : Int) (3 : Int)), v127.Players.2) (setI
    v127.Shots (0 : Int) (T_api_Shot.mk (65024 : Int) (32256 : Int) (2048 : Int) (-2048 : Int) (0 : Int) (1 : Int))) ((65535 : Int), v127.Score.2)))
    fun v144 => (Option.bind (m_state_Take F v144) fun (za, zb) => (Option.bind (cond (zb == (0 : Int)) ((Option.bind (m_state_Same F
    za (T_api_State.mk (18446744073709551615 : Int) v127.Seed ((T_api_Player.mk (61440 : Int) (28672 : Int) (-1024 : Int) (1024 : Int) (1 : Int)
    (30 : Int) (3 : Int)), v127.Players.2) (setI v127.Shots (0 : Int) (T_api_Shot.mk (65024 : Int) (32256 : Int) (2048 : Int) (-2048 : Int) (0 : Int)
    (1 : Int))) ((65535 : Int), v127.Score.2))) fun v153 => some (v153))) (some (false))) fun v154 => (Option.bind (cond v154 ((Option.bind
    (m_hindcastlaw08_fails F v141 (4 : Int)) fun v157 => some (v157))) (some (false))) fun v158 => (Option.bind (cond v158 ((Option.bind
    (m_hindcastlaw08_works F) fun v160 => some (v160))) (some (false))) fun v161 => some
    v161))))))))))))))))))))))))))))))))))))))))))))))))))))))))))))

end Go.Proofs.YtekplmhmppdpcaaDoor
