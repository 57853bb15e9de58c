/-
  Models of the functions of the chapter: what each computes, as a Lean function (none: it is not said). Printed by a program of this claim's own.
-/
import Derived.Test.YtkekgagekgadmaaDoorEng5
namespace Go.Proofs.YtkekgagekgadmaaDoor
open Go.Proofs.YtkekgagekgadmaaDoor.Eng
set_option linter.unusedVariables false
set_option linter.unusedSimpArgs false

structure T_hindcastlaw26_Game where
  Seed : Int
  Player : Int
  Window : Int
  Mine : (List Int)
  Theirs : (List Int)
theorem T_hindcastlaw26_Game.eta (x : T_hindcastlaw26_Game) : T_hindcastlaw26_Game.mk x.Seed x.Player x.Window x.Mine x.Theirs = x := rfl

structure T_api_Shot where
  X : Int
  Y : Int
  VX : Int
  VY : Int
  Owner : Int
  Life : Int
theorem T_api_Shot.eta (x : T_api_Shot) : T_api_Shot.mk x.X x.Y x.VX x.VY x.Owner x.Life = x := rfl

def c_T_api_Shot (x : T_api_Shot) : List Value := [.int .i32 x.X, .int .i32 x.Y, .int .i32 x.VX, .int .i32 x.VY, .int .u8 x.Owner, .int .u8 x.Life]
theorem c_T_api_Shot_len (x : T_api_Shot) : (c_T_api_Shot x).length = 6 := rfl

structure T_api_Player where
  X : Int
  Y : Int
  VX : Int
  VY : Int
  Health : Int
  Cool : Int
  Face : Int
theorem T_api_Player.eta (x : T_api_Player) : T_api_Player.mk x.X x.Y x.VX x.VY x.Health x.Cool x.Face = x := rfl

def c_T_api_Player (x : T_api_Player) : List Value := [.int .i32 x.X, .int .i32 x.Y, .int .i32 x.VX, .int .i32 x.VY, .int .u8 x.Health, .int .u8 x.Cool, .int .u8 x.Face]
theorem c_T_api_Player_len (x : T_api_Player) : (c_T_api_Player x).length = 7 := rfl

structure T_api_State where
  Frame : Int
  Seed : Int
  Players : (T_api_Player × T_api_Player)
  Shots : (List T_api_Shot)
  Score : (Int × Int)
theorem T_api_State.eta (x : T_api_State) : T_api_State.mk x.Frame x.Seed x.Players x.Shots x.Score = x := rfl

def gl_state_playerBounds : List Value := [.int .i32 (0 : Int), .int .i32 (61440 : Int), .int .i32 (0 : Int), .int .i32 (28672 : Int), .int .i32 ((-1024) : Int), .int .i32 (1024 : Int), .int .i32 ((-1024) : Int), .int .i32 (1024 : Int), .int .i32 (1 : Int), .int .i32 (100 : Int), .int .i32 (0 : Int), .int .i32 (30 : Int), .int .i32 (0 : Int), .int .i32 (3 : Int)]

def gl_state_shotBounds : List Value := [.int .i32 (0 : Int), .int .i32 (65024 : Int), .int .i32 (0 : Int), .int .i32 (32256 : Int), .int .i32 ((-2048) : Int), .int .i32 (2048 : Int), .int .i32 ((-2048) : Int), .int .i32 (2048 : Int), .int .i32 (0 : Int), .int .i32 (1 : Int), .int .i32 (1 : Int), .int .i32 (40 : Int)]

structure T_queue_Queue where
  first_ : Int
  l : (List Int)
  last : Int
theorem T_queue_Queue.eta (x : T_queue_Queue) : T_queue_Queue.mk x.first_ x.l x.last = x := rfl

structure T_ring_place where
  s : T_api_State
  is_ : Bool
theorem T_ring_place.eta (x : T_ring_place) : T_ring_place.mk x.s x.is_ = x := rfl

def cg_T_ring_place (p : T_ring_place × G) : List Value := [.int .u64 p.1.s.Frame, .int .u64 p.1.s.Seed, .int .i32 p.1.s.Players.1.X, .int .i32 p.1.s.Players.1.Y, .int .i32 p.1.s.Players.1.VX, .int .i32 p.1.s.Players.1.VY, .int .u8 p.1.s.Players.1.Health, .int .u8 p.1.s.Players.1.Cool, .int .u8 p.1.s.Players.1.Face, .int .i32 p.1.s.Players.2.X, .int .i32 p.1.s.Players.2.Y, .int .i32 p.1.s.Players.2.VX, .int .i32 p.1.s.Players.2.VY, .int .u8 p.1.s.Players.2.Health, .int .u8 p.1.s.Players.2.Cool, .int .u8 p.1.s.Players.2.Face, .slice p.2.1 p.2.2.1 p.2.2.2, .int .u16 p.1.s.Score.1, .int .u16 p.1.s.Score.2, .bool p.1.is_]
theorem cg_T_ring_place_len (p : T_ring_place × G) : (cg_T_ring_place p).length = 20 := rfl
def sh_T_ring_place (x : T_ring_place) : List T_api_Shot := x.s.Shots

structure T_ring_Ring where
  size : Int
  places : (Arr T_ring_place 14)
theorem T_ring_Ring.eta (x : T_ring_Ring) : T_ring_Ring.mk x.size x.places = x := rfl

structure T_rollback_Engine where
  player : Int
  window : Int
  sure : T_api_State
  own : (List Int)
theorem T_rollback_Engine.eta (x : T_rollback_Engine) : T_rollback_Engine.mk x.player x.window x.sure x.own = x := rfl

structure T_api_Box where
  X : Int
  Y : Int
  W : Int
  H : Int
theorem T_api_Box.eta (x : T_api_Box) : T_api_Box.mk x.X x.Y x.W x.H = x := rfl

def c_T_api_Box (x : T_api_Box) : List Value := [.int .i32 x.X, .int .i32 x.Y, .int .i32 x.W, .int .i32 x.H]
theorem c_T_api_Box_len (x : T_api_Box) : (c_T_api_Box x).length = 4 := rfl

structure T_geom_row where
  from_ : Int
  to_ : Int
theorem T_geom_row.eta (x : T_geom_row) : T_geom_row.mk x.from_ x.to_ = x := rfl

def c_T_geom_row (x : T_geom_row) : List Value := [.int .i64 x.from_, .int .i64 x.to_]
theorem c_T_geom_row_len (x : T_geom_row) : (c_T_geom_row x).length = 2 := rfl

structure T_rng_Source where
  S : Int
theorem T_rng_Source.eta (x : T_rng_Source) : T_rng_Source.mk x.S = x := rfl

def c_T_rng_Source (x : T_rng_Source) : List Value := [.int .u64 x.S]
theorem c_T_rng_Source_len (x : T_rng_Source) : (c_T_rng_Source x).length = 1 := rfl

@[reducible] def pl7 (x : T_api_Player) (t : List Value) : List Value := .int .i32 x.X :: .int .i32 x.Y :: .int .i32 x.VX :: .int .i32 x.VY :: .int .u8 x.Health :: .int .u8 x.Cool :: .int .u8 x.Face :: t
@[reducible] def pl14 (x : T_api_Player × T_api_Player) (t : List Value) : List Value := pl7 x.1 (pl7 x.2 t)
def m_state_Start_L8 (F : Nat) : Nat → Int → (T_api_Player × T_api_Player) → Option ((T_api_Player × T_api_Player))
  | 0, _, _ => none
  | n + 1, j9_7, j9_n3_f2 =>
      (cond (decide (j9_7 < (2 : Int))) (cond (j9_7 == (0 : Int)) (m_state_Start_L8 F n (IntKind.wrap .i64 (j9_7 + (1 : Int))) ((T_api_Player.mk
        (IntKind.wrap .i32 ((8192 : Int) + (IntKind.wrap .i32 ((IntKind.wrap .i32 j9_7) * (45056 : Int))))) (14336 : Int) (0 : Int) (0 : Int) (100 :
        Int) (0 : Int) (IntKind.wrap .u8 j9_7)), j9_n3_f2.2)) (cond (j9_7 == (1 : Int)) (m_state_Start_L8 F n (IntKind.wrap .i64 (j9_7 + (1 : Int)))
        (j9_n3_f2.1, (T_api_Player.mk (IntKind.wrap .i32 ((8192 : Int) + (IntKind.wrap .i32 ((IntKind.wrap .i32 j9_7) * (45056 : Int))))) (14336 :
        Int) (0 : Int) (0 : Int) (100 : Int) (0 : Int) (IntKind.wrap .u8 j9_7)))) none)) (some j9_n3_f2))

def m_state_Start (F : Nat) (p0 : Int) : Option (T_api_State) :=
  (Option.bind (m_state_Start_L8 F F (0 : Int) ((T_api_Player.mk (0 : Int) (0 : Int) (0 : Int) (0 : Int) (0 : Int) (0 : Int) (0 : Int)),
    (T_api_Player.mk (0 : Int) (0 : Int) (0 : Int) (0 : Int) (0 : Int) (0 : Int) (0 : Int)))) fun l9_n3_f2 => some (T_api_State.mk (0 : Int) p0
    l9_n3_f2 ([] : List T_api_Shot) ((0 : Int), (0 : Int))))

def m_state_ofPlayer (F : Nat) (p0 : T_api_Player) : Option ((List Int)) :=
  some ([p0.X, p0.Y, p0.VX, p0.VY, (IntKind.wrap .i32 p0.Health), (IntKind.wrap .i32 p0.Cool), (IntKind.wrap .i32 p0.Face)] : List Int)

def m_state_within_L6 (F : Nat) (p0 : (List Int)) (p1 : (List (Int × Int))) : Nat → Int → Option ((Bool) ⊕ (Bool))
  | 0, _ => none
  | n + 1, j7_8 =>
      (cond (decide (j7_8 < (p0.length : Int))) (Option.bind (getI p0 j7_8) fun v13 => (Option.bind (getI p1 j7_8) fun v17 => (Option.bind (cond
        (decide (v13 < v17.1)) (some (true)) ((Option.bind (getI p0 j7_8) fun v24 => (Option.bind (getI p1 j7_8) fun v28 => some ((decide (v28.2 <
        v24))))))) fun v32 => (cond v32 (some (.inr false)) (m_state_within_L6 F p0 p1 n (IntKind.wrap .i64 (j7_8 + (1 : Int)))))))) (some (.inl
        false)))

def m_state_within (F : Nat) (p0 : (List Int)) (p1 : (List (Int × Int))) : Option (Bool) :=
  (Option.bind (m_state_within_L6 F p0 p1 F (0 : Int)) (orE (fun l7_4 => some true) (fun r7 => some r7)))

def m_state_ofShot (F : Nat) (p0 : T_api_Shot) : Option ((List Int)) :=
  some ([p0.X, p0.Y, p0.VX, p0.VY, (IntKind.wrap .i32 p0.Owner), (IntKind.wrap .i32 p0.Life)] : List Int)

def m_state_Check_1 (F : Nat) (p0 : T_api_Shot) (p1 : (Arr (Int × Int) 6)) : Option (Bool) :=
  (Option.bind (m_state_ofShot F p0) fun v5 => (Option.bind (m_state_within F v5 p1.1) fun v7 => some (!v7)))

def m_slices_IndexFunc___api_Shot_api_Shot_f1_state_Check_1_L6 (F : Nat) (p0 : (List T_api_Shot)) (p1c0 : (Arr (Int × Int) 6)) : Nat → Int → Option ((Int) ⊕ (Int))
  | 0, _ => none
  | n + 1, j7_8 =>
      (cond (decide (j7_8 < (p0.length : Int))) (Option.bind (getI p0 j7_8) fun v14 => (Option.bind (m_state_Check_1 F v14 p1c0) fun v16 => (cond v16
        (some (.inr j7_8)) (m_slices_IndexFunc___api_Shot_api_Shot_f1_state_Check_1_L6 F p0 p1c0 n (IntKind.wrap .i64 (j7_8 + (1 : Int))))))) (some
        (.inl (0 : Int))))

def m_slices_IndexFunc___api_Shot_api_Shot_f1_state_Check_1 (F : Nat) (p0 : (List T_api_Shot)) (p1c0 : (Arr (Int × Int) 6)) : Option (Int) :=
  (Option.bind (m_slices_IndexFunc___api_Shot_api_Shot_f1_state_Check_1_L6 F p0 p1c0 F (0 : Int)) (orE (fun l7_4 => some (-1 : Int)) (fun r7 => some
    r7)))

def m_slices_ContainsFunc___api_Shot_api_Shot_f1_state_Check_1 (F : Nat) (p0 : (List T_api_Shot)) (p1c0 : (Arr (Int × Int) 6)) : Option (Bool) :=
  (Option.bind (m_slices_IndexFunc___api_Shot_api_Shot_f1_state_Check_1 F p0 p1c0) fun v7 => some (decide ((0 : Int) ≤ v7)))

def m_state_Check_L10 (F : Nat) (p0 : T_api_State) : Nat → Bool → Int → Option (Bool)
  | 0, _, _ => none
  | n + 1, j11_5, j11_16 =>
      (cond (decide (j11_16 < (2 : Int))) (cond (j11_16 == (0 : Int)) ((Option.bind (cond j11_5 ((Option.bind (m_state_ofPlayer F p0.Players.1) fun
        v22 => (Option.bind (m_state_within F v22 ([((0 : Int), (61440 : Int)), ((0 : Int), (28672 : Int)), (((-1024) : Int), (1024 : Int)), (((-1024)
        : Int), (1024 : Int)), ((1 : Int), (100 : Int)), ((0 : Int), (30 : Int)), ((0 : Int), (3 : Int))] : List (Int × Int))) fun v24 => some
        (v24)))) (some (false))) fun v25 => m_state_Check_L10 F p0 n v25 (IntKind.wrap .i64 (j11_16 + (1 : Int))))) (cond (j11_16 == (1 : Int))
        ((Option.bind (cond j11_5 ((Option.bind (m_state_ofPlayer F p0.Players.2) fun v22 => (Option.bind (m_state_within F v22 ([((0 : Int), (61440 :
        Int)), ((0 : Int), (28672 : Int)), (((-1024) : Int), (1024 : Int)), (((-1024) : Int), (1024 : Int)), ((1 : Int), (100 : Int)), ((0 : Int), (30
        : Int)), ((0 : Int), (3 : Int))] : List (Int × Int))) fun v24 => some (v24)))) (some (false))) fun v25 => m_state_Check_L10 F p0 n v25
        (IntKind.wrap .i64 (j11_16 + (1 : Int))))) none)) (some j11_5))

def m_state_Check (F : Nat) (p0 : T_api_State) : Option (Int) :=
  (Option.bind (m_state_Check_L10 F p0 F (decide ((p0.Shots.length : Int) ≤ (8 : Int))) (0 : Int)) fun l11_5 => (Option.bind (cond (!l11_5) (some
    (true)) ((Option.bind (m_slices_ContainsFunc___api_Shot_api_Shot_f1_state_Check_1 F p0.Shots (⟨[((0 : Int), (65024 : Int)), ((0 : Int), (32256 :
    Int)), (((-2048) : Int), (2048 : Int)), (((-2048) : Int), (2048 : Int)), ((0 : Int), (1 : Int)), ((1 : Int), (40 : Int))], rfl⟩ : Arr (Int × Int)
    6)) fun v33 => some (v33)))) fun v34 => (cond v34 (some (4 : Int)) (some (0 : Int)))))

def m_slices_Clone___api_Shot_api_Shot (F : Nat) (p0 : (List T_api_Shot)) : Option ((List T_api_Shot)) :=
  (Option.bind (appI ([] : List T_api_Shot) p0) fun v7 => some v7)

def m_state_Copy (F : Nat) (p0 : T_api_State) : Option (T_api_State) :=
  (Option.bind (m_slices_Clone___api_Shot_api_Shot F p0.Shots) fun v5 => some (T_api_State.mk p0.Frame p0.Seed p0.Players v5 p0.Score))

def m_queue_New (F : Nat) (p0 : Int) : Option (T_queue_Queue) :=
  some (T_queue_Queue.mk p0 ([] : List Int) (0 : Int))

def m_ring_New (F : Nat) (p0 : Int) : Option ((Option T_ring_Ring)) :=
  (Option.bind (cond (decide (p0 < (1 : Int))) (some (true)) (some ((decide ((14 : Int) < p0))))) fun v8 => (cond v8 (some none) (some (some
    (T_ring_Ring.mk p0 (Arr.rep 14 (T_ring_place.mk (T_api_State.mk (0 : Int) (0 : Int) ((T_api_Player.mk (0 : Int) (0 : Int) (0 : Int) (0 : Int) (0 :
    Int) (0 : Int) (0 : Int)), (T_api_Player.mk (0 : Int) (0 : Int) (0 : Int) (0 : Int) (0 : Int) (0 : Int) (0 : Int))) ([] : List T_api_Shot) ((0 :
    Int), (0 : Int))) false)))))))

def m_ring_Ring_is_nil0 (F : Nat) : Option (Bool) :=
  some false

def m_ring_Ring_Put_nil0 (F : Nat) (p1 : T_api_State) : Option (Bool) :=
  (Option.bind (m_ring_Ring_is_nil0 F) fun v7 => (Option.bind (cond (!v7) (some (true)) ((Option.bind (m_state_Check F p1) fun v11 => some ((v11 != (0
    : Int)))))) fun v13 => (cond v13 (some false) none)))

def m_ring_Ring_is (F : Nat) (p0 : T_ring_Ring) : Option (Bool) :=
  some (decide ((0 : Int) < p0.size))

def m_ring_told (F : Nat) (p0 : T_api_State) : Option (T_api_State) :=
  (Option.bind (mkI (p0.Shots.length : Int) (T_api_Shot.mk (0 : Int) (0 : Int) (0 : Int) (0 : Int) (0 : Int) (0 : Int))) fun v10 => some
    (T_api_State.mk p0.Frame p0.Seed p0.Players (copyL v10 p0.Shots) p0.Score))

def m_ring_Ring_Put (F : Nat) (p0 : T_ring_Ring) (p1 : T_api_State) : Option (T_ring_Ring × Bool) :=
  (Option.bind (m_ring_Ring_is F p0) fun v7 => (Option.bind (cond (!v7) (some (true)) ((Option.bind (m_state_Check F p1) fun v11 => some ((v11 != (0 :
    Int)))))) fun v13 => (cond v13 (some (p0, false)) (Option.bind (remI p1.Frame (IntKind.wrap .u64 p0.size)) fun v100012 => (Option.bind (getI
    p0.places.1 v100012) fun v100015 => (Option.bind (cond v100015.is_ (some ((decide (p1.Frame < v100015.s.Frame)))) (some (false))) fun v31 => (cond
    v31 (some (p0, false)) (Option.bind (m_ring_told F p1) fun v34 => some ((T_ring_Ring.mk p0.size (Arr.set p0.places v100012 (T_ring_place.mk v34
    true))), true)))))))))

def m_rollback_New (F : Nat) (p0 : T_api_State) (p1 : Int) (p2 : Int) : Option ((Option (T_rollback_Engine × T_queue_Queue × T_ring_Ring))) :=
  (Option.bind (m_state_Check F p0) fun v9 => (Option.bind (cond (v9 != (0 : Int)) (some (true)) (some ((decide ((9223372036854775808 : Int) <
    p0.Frame))))) fun v15 => (Option.bind (cond v15 (some (true)) (some ((decide ((1 : Int) < p1))))) fun v19 => (Option.bind (cond v19 (some (true))
    (some ((decide (p2 < (1 : Int)))))) fun v23 => (Option.bind (cond v23 (some (true)) (some ((decide ((12 : Int) < p2))))) fun v27 => (cond v27
    (some none) (Option.bind (m_state_Copy F p0) fun v31 => (Option.bind (m_queue_New F p0.Frame) fun v34 => (Option.bind (m_ring_New F (IntKind.wrap
    .i64 (p2 + (2 : Int)))) fun v37 => poE ((Option.bind (m_ring_Ring_Put_nil0 F p0) fun v45 => none)) (fun v37s => (Option.bind (m_ring_Ring_Put F
    v37s p0) fun (o45_0, v45) => some (some ((T_rollback_Engine.mk p1 p2 v31 ([] : List Int)), v34, o45_0)))) v37)))))))))

def m_rollback_Engine_is_nil0 (F : Nat) : Option (Bool) :=
  some false

def m_input_Legal (F : Nat) (p0 : Int) : Option (Bool) :=
  some (decide (p0 < (64 : Int)))

def m_rollback_Engine_Local_nil0 (F : Nat) (p1 : Int) : Option (Int) :=
  (Option.bind (m_rollback_Engine_is_nil0 F) fun v7 => (cond (!v7) (some (1 : Int)) (Option.bind (m_input_Legal F p1) fun v11 => (cond (!v11) (some (2
    : Int)) none))))

def m_ring_Ring_Newest_L11 (F : Nat) (v16 : (List T_ring_place)) : Nat → Int → Int → Int → (T_api_Player × T_api_Player) → (List T_api_Shot) → (Int × Int) → Bool → Option (Int × Int × (T_api_Player × T_api_Player) × (List T_api_Shot) × (Int × Int) × Bool)
  | 0, _, _, _, _, _, _, _ => none
  | n + 1, j12_18, j12_n4_f0_0, j12_n4_f0_1, j12_n4_f0_2, j12_n4_f0_3, j12_n4_f0_4, j12_n4_f1 =>
      (cond (decide (j12_18 < (v16.length : Int))) (Option.bind (getI v16 j12_18) fun v20 => (Option.bind (cond v20.is_ ((Option.bind (cond
        (!j12_n4_f1) (some (true)) (some ((decide (j12_n4_f0_0 < v20.s.Frame))))) fun v36 => some (v36))) (some (false))) fun v37 => (cond v37
        (m_ring_Ring_Newest_L11 F v16 n (IntKind.wrap .i64 (j12_18 + (1 : Int))) v20.s.Frame v20.s.Seed v20.s.Players v20.s.Shots v20.s.Score v20.is_)
        (m_ring_Ring_Newest_L11 F v16 n (IntKind.wrap .i64 (j12_18 + (1 : Int))) j12_n4_f0_0 j12_n4_f0_1 j12_n4_f0_2 j12_n4_f0_3 j12_n4_f0_4
        j12_n4_f1)))) (some (j12_n4_f0_0, j12_n4_f0_1, j12_n4_f0_2, j12_n4_f0_3, j12_n4_f0_4, j12_n4_f1)))

def m_ring_Ring_Newest (F : Nat) (p0 : T_ring_Ring) : Option (T_api_State × Bool) :=
  (Option.bind (m_ring_Ring_is F p0) fun v8 => (Option.bind ((cond v8 (Option.bind (cutI p0.places.1 0 p0.size) fun v16 => (Option.bind
    (m_ring_Ring_Newest_L11 F v16 F (0 : Int) (0 : Int) (0 : Int) ((T_api_Player.mk (0 : Int) (0 : Int) (0 : Int) (0 : Int) (0 : Int) (0 : Int) (0 :
    Int)), (T_api_Player.mk (0 : Int) (0 : Int) (0 : Int) (0 : Int) (0 : Int) (0 : Int) (0 : Int))) ([] : List T_api_Shot) ((0 : Int), (0 : Int))
    false) fun (l12_n4_f0_0, l12_n4_f0_1, l12_n4_f0_2, l12_n4_f0_3, l12_n4_f0_4, l12_n4_f1) => some (l12_n4_f0_0, l12_n4_f0_1, l12_n4_f0_2,
    l12_n4_f0_3, l12_n4_f0_4, l12_n4_f1))) (some ((0 : Int), (0 : Int), ((T_api_Player.mk (0 : Int) (0 : Int) (0 : Int) (0 : Int) (0 : Int) (0 : Int)
    (0 : Int)), (T_api_Player.mk (0 : Int) (0 : Int) (0 : Int) (0 : Int) (0 : Int) (0 : Int) (0 : Int))), ([] : List T_api_Shot), ((0 : Int), (0 :
    Int)), false)))) fun (j8_n4_f0_0, j8_n4_f0_1, j8_n4_f0_2, j8_n4_f0_3, j8_n4_f0_4, j8_n4_f1) => (Option.bind (m_ring_told F (T_api_State.mk
    j8_n4_f0_0 j8_n4_f0_1 j8_n4_f0_2 j8_n4_f0_3 j8_n4_f0_4)) fun v42 => some (v42, j8_n4_f1))))

def m_rollback_Engine_Shown_nil0 (F : Nat) : Option (T_api_State) :=
  (Option.bind (m_rollback_Engine_is_nil0 F) fun v7 => (cond (!v7) (some (T_api_State.mk (0 : Int) (0 : Int) ((T_api_Player.mk (0 : Int) (0 : Int) (0
    : Int) (0 : Int) (0 : Int) (0 : Int) (0 : Int)), (T_api_Player.mk (0 : Int) (0 : Int) (0 : Int) (0 : Int) (0 : Int) (0 : Int) (0 : Int))) ([] :
    List T_api_Shot) ((0 : Int), (0 : Int)))) none))

def m_queue_Queue_Known (F : Nat) (p0 : T_queue_Queue) : Option (Int) :=
  some (IntKind.wrap .u64 (p0.first_ + (IntKind.wrap .u64 (p0.l.length : Int))))

def m_queue_Queue_from (F : Nat) (p0 : T_queue_Queue) (p1 : Int) : Option ((List Int)) :=
  (Option.bind (cond (decide (p1 < p0.first_)) (some (true)) ((Option.bind (m_queue_Queue_Known F p0) fun v18 => some ((decide (v18 ≤ p1)))))) fun v20
    => (cond v20 (some ([] : List Int)) (Option.bind (cut3I p0.l (IntKind.wrap .u64 (p1 - p0.first_)) (p0.l.length : Int) (p0.l.length : Int)) fun v41
    => some v41)))

def m_queue_Queue_At (F : Nat) (p0 : T_queue_Queue) (p1 : Int) : Option (Int × Bool) :=
  (Option.bind (m_queue_Queue_from F p0 p1) fun v9 => (cond (decide ((0 : Int) < (v9.length : Int))) (Option.bind (getI v9 (0 : Int)) fun v14 => some
    (v14, true)) (some ((0 : Int), false))))

def m_queue_Queue_Guess (F : Nat) (p0 : T_queue_Queue) (p1 : Int) : Option (Int) :=
  (Option.bind (m_queue_Queue_At F p0 p1) fun (v10_0, v10_1) => (Option.bind (cond v10_1 (some (true)) (some (false))) fun v17 => (cond v17 (some
    v10_0) (some p0.last))))

def m_rollback_Engine_Remote_nil0 (F : Nat) (p1 : Int) (p2 : Int) : Option (Int) :=
  (Option.bind (m_rollback_Engine_is_nil0 F) fun v11 => (cond (!v11) (some (1 : Int)) none))

def m_rollback_Engine_is (F : Nat) (p0 : T_rollback_Engine) (p0_4 : T_queue_Queue) (p0_5 : T_ring_Ring) : Option (Bool) :=
  some true

def m_rollback_Engine_Local (F : Nat) (p0 : T_rollback_Engine) (p0_4 : T_queue_Queue) (p0_5 : T_ring_Ring) (p1 : Int) : Option (T_rollback_Engine × Int) :=
  (Option.bind (m_rollback_Engine_is F p0 p0_4 p0_5) fun v7 => (cond (!v7) (some (p0, (1 : Int))) (Option.bind (m_input_Legal F p1) fun v11 => (cond
    (!v11) (some (p0, (2 : Int))) (cond (decide (p0.window ≤ (p0.own.length : Int))) (some (p0, (7 : Int))) (Option.bind (appI p0.own ([p1] : List
    Int)) fun v31 => some ((T_rollback_Engine.mk p0.player p0.window p0.sure v31), (0 : Int))))))))

def m_rollback_Engine_C (F : Nat) (p0 : T_rollback_Engine) (p0_4 : T_queue_Queue) (p0_5 : T_ring_Ring) : Option (Int) :=
  (Option.bind (m_rollback_Engine_is F p0 p0_4 p0_5) fun v4 => (cond (!v4) (some (0 : Int)) (some p0.sure.Frame)))

def m_slices_Clone___api_Input_api_Input (F : Nat) (p0 : (List Int)) : Option ((List Int)) :=
  (Option.bind (appI ([] : List Int) p0) fun v7 => some v7)

def m_rollback_Engine_Own (F : Nat) (p0 : T_rollback_Engine) (p0_4 : T_queue_Queue) (p0_5 : T_ring_Ring) : Option ((List Int)) :=
  (Option.bind (m_rollback_Engine_is F p0 p0_4 p0_5) fun v4 => (cond (!v4) (some ([] : List Int)) (Option.bind (m_slices_Clone___api_Input_api_Input F
    p0.own) fun v10 => some v10)))

def m_rollback_Engine_T (F : Nat) (p0 : T_rollback_Engine) (p0_4 : T_queue_Queue) (p0_5 : T_ring_Ring) : Option (Int) :=
  (Option.bind (m_rollback_Engine_C F p0 p0_4 p0_5) fun v4 => (Option.bind (m_rollback_Engine_Own F p0 p0_4 p0_5) fun v6 => some (IntKind.wrap .u64
    (v4 + (IntKind.wrap .u64 (v6.length : Int))))))

def m_rollback_Engine_pair (F : Nat) (p0 : T_rollback_Engine) (p0_4 : T_queue_Queue) (p0_5 : T_ring_Ring) (p1 : Int) : Option ((Int × Int)) :=
  (Option.bind (getI p0.own (IntKind.wrap .u64 (p1 - p0.sure.Frame))) fun v20 => (cond (p0.player == (0 : Int)) ((Option.bind (m_queue_Queue_Guess F
    p0_4 p1) fun v33 => (cond ((IntKind.wrap .u8 ((1 : Int) - p0.player)) == (0 : Int)) (some (v33, (0 : Int))) (cond ((IntKind.wrap .u8 ((1 : Int) -
    p0.player)) == (1 : Int)) (some (v20, v33)) none)))) (cond (p0.player == (1 : Int)) ((Option.bind (m_queue_Queue_Guess F p0_4 p1) fun v33 => (cond
    ((IntKind.wrap .u8 ((1 : Int) - p0.player)) == (0 : Int)) (some (v33, v20)) (cond ((IntKind.wrap .u8 ((1 : Int) - p0.player)) == (1 : Int)) (some
    ((0 : Int), v33)) none)))) none)))

def m_input_way (F : Nat) (p0 : Int) (p1 : Int) (p2 : Int) : Option (Int) :=
  (cond ((bits .and .u8 p0 (bits .or .u8 p1 p2)) == p1) (some (-1 : Int)) (cond ((bits .and .u8 p0 (bits .or .u8 p1 p2)) == p2) (some (1 : Int)) (some
    (0 : Int))))

def m_input_Dir (F : Nat) (p0 : Int) : Option (Int × Int) :=
  (Option.bind (m_input_way F p0 (1 : Int) (2 : Int)) fun v5 => (Option.bind (m_input_way F p0 (4 : Int) (8 : Int)) fun v7 => some (v5, v7)))

def m_step_turn (F : Nat) (p0 : Int) (p1 : Int) (p2 : Int) : Option (Int) :=
  (cond (decide ((0 : Int) < p1)) (some (0 : Int)) (cond (decide (p1 < (0 : Int))) (some (1 : Int)) (cond (decide (p2 < (0 : Int))) (some (2 : Int))
    (cond (decide ((0 : Int) < p2)) (some (3 : Int)) (some p0)))))

def m_input_Dash (F : Nat) (p0 : Int) : Option (Bool) :=
  some ((bits .and .u8 p0 (32 : Int)) != (0 : Int))

def m_step_steer_1 (F : Nat) (p0 : Int) (p1 : Int) (p2 : Bool) : Option (Int) :=
  (Option.bind ((cond (p1 != (0 : Int)) (some (IntKind.wrap .i32 (p0 + (IntKind.wrap .i32 ((64 : Int) * p1))))) (Option.bind (cond (decide ((-8 : Int)
    < (IntKind.wrap .i32 (p0 - (IntKind.wrap .i32 (Int.tdiv p0 8)))))) (some ((decide ((IntKind.wrap .i32 (p0 - (IntKind.wrap .i32 (Int.tdiv p0 8))))
    < (8 : Int))))) (some (false))) fun v21 => (cond v21 (some (0 : Int)) (some (IntKind.wrap .i32 (p0 - (IntKind.wrap .i32 (Int.tdiv p0 8)))))))))
    fun j6_0 => (Option.bind ((cond p2 (some (IntKind.wrap .i32 (j6_0 * (2 : Int)))) (some j6_0))) fun j18_0 => some (max (-1024 : Int) (min j18_0
    (1024 : Int)))))

def m_step_steer (F : Nat) (p0 : T_api_Player) (p1 : Int) : Option (T_api_Player) :=
  (Option.bind (m_input_Dir F p1) fun (v11_0, v11_1) => (Option.bind (m_step_turn F p0.Face v11_0 v11_1) fun v25 => (Option.bind (m_input_Dash F p1)
    fun v28 => (Option.bind (cond v28 (some (((IntKind.wrap .u8 (p0.Cool - (min p0.Cool (1 : Int)))) == (0 : Int)))) (some (false))) fun v33 =>
    (Option.bind (m_step_steer_1 F p0.VX v11_0 v33) fun v39 => (Option.bind (m_step_steer_1 F p0.VY v11_1 v33) fun v44 => (Option.bind ((cond v33
    (some (T_api_Player.mk p0.X p0.Y v39 v44 p0.Health (30 : Int) v25)) (some (T_api_Player.mk p0.X p0.Y v39 v44 p0.Health (IntKind.wrap .u8 (p0.Cool
    - (min p0.Cool (1 : Int)))) v25)))) fun j18_n2 => some j18_n2)))))))

def m_input_Fire (F : Nat) (p0 : Int) : Option (Bool) :=
  some ((bits .and .u8 p0 (16 : Int)) != (0 : Int))

def m_step_shoot (F : Nat) (p0 : T_api_Player) (p1 : Int) : Option (T_api_Shot) :=
  (Option.bind ((cond (p0.Face == (0 : Int)) (some (T_api_Shot.mk (IntKind.wrap .i32 (p0.X + (1792 : Int))) (IntKind.wrap .i32 (p0.Y + (1792 : Int)))
    (2048 : Int) (0 : Int) p1 (40 : Int))) (cond (p0.Face == (1 : Int)) (some (T_api_Shot.mk (IntKind.wrap .i32 (p0.X + (1792 : Int))) (IntKind.wrap
    .i32 (p0.Y + (1792 : Int))) (-2048 : Int) (0 : Int) p1 (40 : Int))) (cond (p0.Face == (2 : Int)) (some (T_api_Shot.mk (IntKind.wrap .i32 (p0.X +
    (1792 : Int))) (IntKind.wrap .i32 (p0.Y + (1792 : Int))) (0 : Int) (-2048 : Int) p1 (40 : Int))) (some (T_api_Shot.mk (IntKind.wrap .i32 (p0.X +
    (1792 : Int))) (IntKind.wrap .i32 (p0.Y + (1792 : Int))) (0 : Int) (2048 : Int) p1 (40 : Int))))))) fun j8_n5 => some j8_n5)

def m_geom_Move (F : Nat) (p0 : Int) (p1 : Int) (p2 : Int) (p3 : Int) : Option (Int × Int) :=
  (Option.bind (cond (decide (p3 < p2)) (some (true)) (some ((decide ((IntKind.wrap .i64 ((IntKind.wrap .i64 p0) + (IntKind.wrap .i64 p1))) <
    (IntKind.wrap .i64 p2)))))) fun v24 => (cond v24 (some (p2, (0 : Int))) (cond (decide ((IntKind.wrap .i64 p3) < (IntKind.wrap .i64 ((IntKind.wrap
    .i64 p0) + (IntKind.wrap .i64 p1))))) (some (p3, (0 : Int))) (some ((IntKind.wrap .i32 (IntKind.wrap .i64 ((IntKind.wrap .i64 p0) + (IntKind.wrap
    .i64 p1)))), p1)))))

def m_step_moved (F : Nat) (p0 : T_api_Player) : Option (T_api_Player) :=
  (Option.bind (m_geom_Move F p0.X p0.VX (0 : Int) (61440 : Int)) fun (v8_0, v8_1) => (Option.bind (m_geom_Move F p0.Y p0.VY (0 : Int) (28672 : Int))
    fun (v18_0, v18_1) => some (T_api_Player.mk v8_0 v18_0 v8_1 v18_1 p0.Health p0.Cool p0.Face)))

def m_step_box (F : Nat) (p0 : T_api_Player) : Option (T_api_Box) :=
  some (T_api_Box.mk p0.X p0.Y (4096 : Int) (4096 : Int))

def m_geom_of (F : Nat) (p0 : Int) (p1 : Int) : Option (T_geom_row) :=
  some (T_geom_row.mk (IntKind.wrap .i64 p0) (IntKind.wrap .i64 ((IntKind.wrap .i64 p0) + (IntKind.wrap .i64 (max (0 : Int) p1)))))

def m_geom_rows (F : Nat) (p0 : T_api_Box) : Option (T_geom_row × T_geom_row) :=
  (Option.bind (m_geom_of F p0.X p0.W) fun v8 => (Option.bind (m_geom_of F p0.Y p0.H) fun v13 => some (v8, v13)))

def m_geom_row_over (F : Nat) (p0 : T_geom_row) (p1 : T_geom_row) : Option (Bool) :=
  some (decide ((max p0.from_ p1.from_) < (min p0.to_ p1.to_)))

def m_geom_both_f2_geom_row_over (F : Nat) (p0 : T_api_Box) (p1 : T_api_Box) : Option (Bool) :=
  (Option.bind (m_geom_rows F p0) fun (v13_0, v13_1) => (Option.bind (m_geom_rows F p1) fun (v18_0, v18_1) => (Option.bind (m_geom_row_over F v13_0
    v18_0) fun v24 => (Option.bind (cond v24 ((Option.bind (m_geom_row_over F v13_1 v18_1) fun v29 => some (v29))) (some (false))) fun v30 => some
    v30))))

def m_geom_Over (F : Nat) (p0 : T_api_Box) (p1 : T_api_Box) : Option (Bool) :=
  (Option.bind (m_geom_both_f2_geom_row_over F p0 p1) fun v7 => some v7)

def m_step_stopped (F : Nat) (p0 : T_api_Player) : Option (T_api_Player) :=
  some (T_api_Player.mk p0.X p0.Y (0 : Int) (0 : Int) p0.Health p0.Cool p0.Face)

def m_geom_row_inside (F : Nat) (p0 : T_geom_row) (p1 : T_geom_row) : Option (Bool) :=
  (Option.bind (cond (decide (p0.from_ < p0.to_)) (some ((decide (p1.from_ ≤ p0.from_)))) (some (false))) fun v16 => (Option.bind (cond v16 (some
    ((decide (p0.to_ ≤ p1.to_)))) (some (false))) fun v23 => some v23))

def m_geom_both_f2_geom_row_inside (F : Nat) (p0 : T_api_Box) (p1 : T_api_Box) : Option (Bool) :=
  (Option.bind (m_geom_rows F p0) fun (v13_0, v13_1) => (Option.bind (m_geom_rows F p1) fun (v18_0, v18_1) => (Option.bind (m_geom_row_inside F v13_0
    v18_0) fun v24 => (Option.bind (cond v24 ((Option.bind (m_geom_row_inside F v13_1 v18_1) fun v29 => some (v29))) (some (false))) fun v30 => some
    v30))))

def m_geom_Inside (F : Nat) (p0 : T_api_Box) (p1 : T_api_Box) : Option (Bool) :=
  (Option.bind (m_geom_both_f2_geom_row_inside F p0 p1) fun v7 => some v7)

def m_step_fly_L8 (F : Nat) (p0 : T_api_State) : Nat → (List T_api_Shot) → Int → (T_api_Player × T_api_Player) → (Int × Int) → Option ((List T_api_Shot) × (T_api_Player × T_api_Player) × (Int × Int))
  | 0, _, _, _, _ => none
  | n + 1, j9_3, j9_14, j9_p0_f2, j9_p0_f4 =>
      (cond (decide (j9_14 < (p0.Shots.length : Int))) (Option.bind (getI p0.Shots j9_14) fun v16 => (cond ((IntKind.wrap .u8 ((1 : Int) - v16.Owner))
        == (0 : Int)) ((Option.bind (m_geom_Inside F (T_api_Box.mk (IntKind.wrap .i32 (v16.X + v16.VX)) (IntKind.wrap .i32 (v16.Y + v16.VY)) (512 :
        Int) (512 : Int)) (T_api_Box.mk (0 : Int) (0 : Int) (65536 : Int) (32768 : Int))) fun v49 => (cond (!v49) (m_step_fly_L8 F p0 n j9_3
        (IntKind.wrap .i64 (j9_14 + (1 : Int))) j9_p0_f2 j9_p0_f4) (Option.bind (m_step_box F j9_p0_f2.1) fun v56 => (Option.bind (m_geom_Over F
        (T_api_Box.mk (IntKind.wrap .i32 (v16.X + v16.VX)) (IntKind.wrap .i32 (v16.Y + v16.VY)) (512 : Int) (512 : Int)) v56) fun v57 => (cond v57
        (cond (v16.Owner == (0 : Int)) (m_step_fly_L8 F p0 n j9_3 (IntKind.wrap .i64 (j9_14 + (1 : Int))) ((T_api_Player.mk j9_p0_f2.1.X j9_p0_f2.1.Y
        j9_p0_f2.1.VX j9_p0_f2.1.VY (IntKind.wrap .u8 (j9_p0_f2.1.Health - (min j9_p0_f2.1.Health (10 : Int)))) j9_p0_f2.1.Cool j9_p0_f2.1.Face),
        j9_p0_f2.2) ((IntKind.wrap .u16 ((min j9_p0_f4.1 (65534 : Int)) + (1 : Int))), j9_p0_f4.2)) (cond (v16.Owner == (1 : Int)) (m_step_fly_L8 F p0
        n j9_3 (IntKind.wrap .i64 (j9_14 + (1 : Int))) ((T_api_Player.mk j9_p0_f2.1.X j9_p0_f2.1.Y j9_p0_f2.1.VX j9_p0_f2.1.VY (IntKind.wrap .u8
        (j9_p0_f2.1.Health - (min j9_p0_f2.1.Health (10 : Int)))) j9_p0_f2.1.Cool j9_p0_f2.1.Face), j9_p0_f2.2) (j9_p0_f4.1, (IntKind.wrap .u16 ((min
        j9_p0_f4.2 (65534 : Int)) + (1 : Int))))) none)) (cond (decide ((0 : Int) < (IntKind.wrap .u8 (v16.Life - (1 : Int))))) (Option.bind (appI
        j9_3 ([(T_api_Shot.mk (IntKind.wrap .i32 (v16.X + v16.VX)) (IntKind.wrap .i32 (v16.Y + v16.VY)) v16.VX v16.VY v16.Owner (IntKind.wrap .u8
        (v16.Life - (1 : Int))))] : List T_api_Shot)) fun v92 => m_step_fly_L8 F p0 n v92 (IntKind.wrap .i64 (j9_14 + (1 : Int))) j9_p0_f2 j9_p0_f4)
        (m_step_fly_L8 F p0 n j9_3 (IntKind.wrap .i64 (j9_14 + (1 : Int))) j9_p0_f2 j9_p0_f4)))))))) (cond ((IntKind.wrap .u8 ((1 : Int) - v16.Owner))
        == (1 : Int)) ((Option.bind (m_geom_Inside F (T_api_Box.mk (IntKind.wrap .i32 (v16.X + v16.VX)) (IntKind.wrap .i32 (v16.Y + v16.VY)) (512 :
        Int) (512 : Int)) (T_api_Box.mk (0 : Int) (0 : Int) (65536 : Int) (32768 : Int))) fun v49 => (cond (!v49) (m_step_fly_L8 F p0 n j9_3
        (IntKind.wrap .i64 (j9_14 + (1 : Int))) j9_p0_f2 j9_p0_f4) (Option.bind (m_step_box F j9_p0_f2.2) fun v56 => (Option.bind (m_geom_Over F
        (T_api_Box.mk (IntKind.wrap .i32 (v16.X + v16.VX)) (IntKind.wrap .i32 (v16.Y + v16.VY)) (512 : Int) (512 : Int)) v56) fun v57 => (cond v57
        (cond (v16.Owner == (0 : Int)) (m_step_fly_L8 F p0 n j9_3 (IntKind.wrap .i64 (j9_14 + (1 : Int))) (j9_p0_f2.1, (T_api_Player.mk j9_p0_f2.2.X
        j9_p0_f2.2.Y j9_p0_f2.2.VX j9_p0_f2.2.VY (IntKind.wrap .u8 (j9_p0_f2.2.Health - (min j9_p0_f2.2.Health (10 : Int)))) j9_p0_f2.2.Cool
        j9_p0_f2.2.Face)) ((IntKind.wrap .u16 ((min j9_p0_f4.1 (65534 : Int)) + (1 : Int))), j9_p0_f4.2)) (cond (v16.Owner == (1 : Int))
        (m_step_fly_L8 F p0 n j9_3 (IntKind.wrap .i64 (j9_14 + (1 : Int))) (j9_p0_f2.1, (T_api_Player.mk j9_p0_f2.2.X j9_p0_f2.2.Y j9_p0_f2.2.VX
        j9_p0_f2.2.VY (IntKind.wrap .u8 (j9_p0_f2.2.Health - (min j9_p0_f2.2.Health (10 : Int)))) j9_p0_f2.2.Cool j9_p0_f2.2.Face)) (j9_p0_f4.1,
        (IntKind.wrap .u16 ((min j9_p0_f4.2 (65534 : Int)) + (1 : Int))))) none)) (cond (decide ((0 : Int) < (IntKind.wrap .u8 (v16.Life - (1 :
        Int))))) (Option.bind (appI j9_3 ([(T_api_Shot.mk (IntKind.wrap .i32 (v16.X + v16.VX)) (IntKind.wrap .i32 (v16.Y + v16.VY)) v16.VX v16.VY
        v16.Owner (IntKind.wrap .u8 (v16.Life - (1 : Int))))] : List T_api_Shot)) fun v92 => m_step_fly_L8 F p0 n v92 (IntKind.wrap .i64 (j9_14 + (1 :
        Int))) j9_p0_f2 j9_p0_f4) (m_step_fly_L8 F p0 n j9_3 (IntKind.wrap .i64 (j9_14 + (1 : Int))) j9_p0_f2 j9_p0_f4)))))))) none))) (some (j9_3,
        j9_p0_f2, j9_p0_f4)))

def m_step_fly (F : Nat) (p0 : T_api_State) : Option (T_api_State) :=
  (Option.bind (m_step_fly_L8 F p0 F ([] : List T_api_Shot) (0 : Int) p0.Players p0.Score) fun (l9_3, l9_p0_f2, l9_p0_f4) => some (T_api_State.mk
    p0.Frame p0.Seed l9_p0_f2 l9_3 l9_p0_f4))

def m_rng_Source_Skip (F : Nat) (p0 : T_rng_Source) (p1 : Int) : Option (T_rng_Source) :=
  some (T_rng_Source.mk (IntKind.wrap .u64 (p0.S + (IntKind.wrap .u64 (p1 * (11400714819323198485 : Int))))))

def m_rng_Mix (F : Nat) (p0 : Int) : Option (Int) :=
  some (bits .xor .u64 (IntKind.wrap .u64 ((bits .xor .u64 (IntKind.wrap .u64 ((bits .xor .u64 p0 (p0 / 2 ^ (min 30 (IntKind.bits .u64)))) *
    (13787848793156543929 : Int))) ((IntKind.wrap .u64 ((bits .xor .u64 p0 (p0 / 2 ^ (min 30 (IntKind.bits .u64)))) * (13787848793156543929 : Int))) /
    2 ^ (min 27 (IntKind.bits .u64)))) * (10723151780598845931 : Int))) ((IntKind.wrap .u64 ((bits .xor .u64 (IntKind.wrap .u64 ((bits .xor .u64 p0
    (p0 / 2 ^ (min 30 (IntKind.bits .u64)))) * (13787848793156543929 : Int))) ((IntKind.wrap .u64 ((bits .xor .u64 p0 (p0 / 2 ^ (min 30 (IntKind.bits
    .u64)))) * (13787848793156543929 : Int))) / 2 ^ (min 27 (IntKind.bits .u64)))) * (10723151780598845931 : Int))) / 2 ^ (min 31 (IntKind.bits
    .u64))))

def m_rng_Source_Next (F : Nat) (p0 : T_rng_Source) : Option (Int × T_rng_Source) :=
  (Option.bind (m_rng_Source_Skip F p0 (1 : Int)) fun v5 => (Option.bind (m_rng_Mix F v5.S) fun v8 => some (v8, v5)))

def m_rng_Source_Below (F : Nat) (p0 : T_rng_Source) (p1 : Int) : Option (Int × T_rng_Source) :=
  (cond (decide (p1 < (1 : Int))) (some ((0 : Int), p0)) (Option.bind (m_rng_Source_Next F p0) fun (v13_0, v13_1) => some ((IntKind.wrap .i64
    ((IntKind.wrap .u64 ((v13_0 / 2 ^ (min 32 (IntKind.bits .u64))) * (IntKind.wrap .u64 (min p1 (2147483648 : Int))))) / 2 ^ (min 32 (IntKind.bits
    .u64)))), v13_1)))

def m_step_revive (F : Nat) (p0 : T_api_State) (p1 : Int) : Option (T_api_State) :=
  (cond (p1 == (0 : Int)) ((Option.bind (m_step_stopped F p0.Players.1) fun v15 => (Option.bind (m_rng_Source_Below F (T_rng_Source.mk p0.Seed) (61441
    : Int)) fun (v24_0, v24_1) => (Option.bind (m_rng_Source_Below F v24_1 (28673 : Int)) fun (v29_0, v29_1) => (Option.bind (m_step_box F
    (T_api_Player.mk (IntKind.wrap .i32 v24_0) (IntKind.wrap .i32 v29_0) v15.VX v15.VY (100 : Int) v15.Cool v15.Face)) fun v45 => (cond ((IntKind.wrap
    .i64 ((1 : Int) - p1)) == (0 : Int)) ((Option.bind (m_step_box F p0.Players.1) fun v53 => (Option.bind (m_geom_Over F v45 v53) fun v54 =>
    (Option.bind ((cond (!v54) (some (T_api_Player.mk (IntKind.wrap .i32 v24_0) (IntKind.wrap .i32 v29_0) v15.VX v15.VY (100 : Int) v15.Cool
    v15.Face)) (some (T_api_Player.mk v15.X v15.Y v15.VX v15.VY (100 : Int) v15.Cool v15.Face)))) fun j20_n4 => some (T_api_State.mk p0.Frame v29_1.S
    (j20_n4, p0.Players.2) p0.Shots p0.Score))))) (cond ((IntKind.wrap .i64 ((1 : Int) - p1)) == (1 : Int)) ((Option.bind (m_step_box F p0.Players.2)
    fun v53 => (Option.bind (m_geom_Over F v45 v53) fun v54 => (Option.bind ((cond (!v54) (some (T_api_Player.mk (IntKind.wrap .i32 v24_0)
    (IntKind.wrap .i32 v29_0) v15.VX v15.VY (100 : Int) v15.Cool v15.Face)) (some (T_api_Player.mk v15.X v15.Y v15.VX v15.VY (100 : Int) v15.Cool
    v15.Face)))) fun j20_n4 => some (T_api_State.mk p0.Frame v29_1.S (j20_n4, p0.Players.2) p0.Shots p0.Score))))) none))))))) (cond (p1 == (1 : Int))
    ((Option.bind (m_step_stopped F p0.Players.2) fun v15 => (Option.bind (m_rng_Source_Below F (T_rng_Source.mk p0.Seed) (61441 : Int)) fun (v24_0,
    v24_1) => (Option.bind (m_rng_Source_Below F v24_1 (28673 : Int)) fun (v29_0, v29_1) => (Option.bind (m_step_box F (T_api_Player.mk (IntKind.wrap
    .i32 v24_0) (IntKind.wrap .i32 v29_0) v15.VX v15.VY (100 : Int) v15.Cool v15.Face)) fun v45 => (cond ((IntKind.wrap .i64 ((1 : Int) - p1)) == (0 :
    Int)) ((Option.bind (m_step_box F p0.Players.1) fun v53 => (Option.bind (m_geom_Over F v45 v53) fun v54 => (Option.bind ((cond (!v54) (some
    (T_api_Player.mk (IntKind.wrap .i32 v24_0) (IntKind.wrap .i32 v29_0) v15.VX v15.VY (100 : Int) v15.Cool v15.Face)) (some (T_api_Player.mk v15.X
    v15.Y v15.VX v15.VY (100 : Int) v15.Cool v15.Face)))) fun j20_n4 => some (T_api_State.mk p0.Frame v29_1.S (p0.Players.1, j20_n4) p0.Shots
    p0.Score))))) (cond ((IntKind.wrap .i64 ((1 : Int) - p1)) == (1 : Int)) ((Option.bind (m_step_box F p0.Players.2) fun v53 => (Option.bind
    (m_geom_Over F v45 v53) fun v54 => (Option.bind ((cond (!v54) (some (T_api_Player.mk (IntKind.wrap .i32 v24_0) (IntKind.wrap .i32 v29_0) v15.VX
    v15.VY (100 : Int) v15.Cool v15.Face)) (some (T_api_Player.mk v15.X v15.Y v15.VX v15.VY (100 : Int) v15.Cool v15.Face)))) fun j20_n4 => some
    (T_api_State.mk p0.Frame v29_1.S (p0.Players.1, j20_n4) p0.Shots p0.Score))))) none))))))) none))

def m_step_Step_L16 (F : Nat) (p1 : (Int × Int)) : Nat → Int → (T_api_Player × T_api_Player) → Option ((T_api_Player × T_api_Player))
  | 0, _, _ => none
  | n + 1, j17_29, j17_n2_f2 =>
      (cond (decide (j17_29 < (2 : Int))) (cond (j17_29 == (0 : Int)) ((Option.bind (m_step_steer F j17_n2_f2.1 p1.1) fun v40 => m_step_Step_L16 F p1
        n (IntKind.wrap .i64 (j17_29 + (1 : Int))) (v40, j17_n2_f2.2))) (cond (j17_29 == (1 : Int)) ((Option.bind (m_step_steer F j17_n2_f2.2 p1.2)
        fun v40 => m_step_Step_L16 F p1 n (IntKind.wrap .i64 (j17_29 + (1 : Int))) (j17_n2_f2.1, v40))) none)) (some j17_n2_f2))

def m_step_Step_L33 (F : Nat) (p1 : (Int × Int)) : Nat → Int → (T_api_Player × T_api_Player) → (List T_api_Shot) → Option ((T_api_Player × T_api_Player) × (List T_api_Shot))
  | 0, _, _, _ => none
  | n + 1, j34_44, j34_n2_f2, j34_n2_f3 =>
      (cond (decide (j34_44 < (2 : Int))) (cond (j34_44 == (0 : Int)) ((Option.bind (m_input_Fire F p1.1) fun v53 => (Option.bind (cond v53 (some
        ((j34_n2_f2.1.Cool == (0 : Int)))) (some (false))) fun v60 => (Option.bind (cond v60 (some ((decide ((j34_n2_f3.length : Int) < (8 : Int)))))
        (some (false))) fun v66 => (cond v66 (Option.bind (m_step_shoot F j34_n2_f2.1 (IntKind.wrap .u8 j34_44)) fun v74 => (Option.bind (appI
        j34_n2_f3 ([v74] : List T_api_Shot)) fun v76 => m_step_Step_L33 F p1 n (IntKind.wrap .i64 (j34_44 + (1 : Int))) ((T_api_Player.mk
        j34_n2_f2.1.X j34_n2_f2.1.Y j34_n2_f2.1.VX j34_n2_f2.1.VY j34_n2_f2.1.Health (10 : Int) j34_n2_f2.1.Face), j34_n2_f2.2) v76)) (m_step_Step_L33
        F p1 n (IntKind.wrap .i64 (j34_44 + (1 : Int))) j34_n2_f2 j34_n2_f3)))))) (cond (j34_44 == (1 : Int)) ((Option.bind (m_input_Fire F p1.2) fun
        v53 => (Option.bind (cond v53 (some ((j34_n2_f2.2.Cool == (0 : Int)))) (some (false))) fun v60 => (Option.bind (cond v60 (some ((decide
        ((j34_n2_f3.length : Int) < (8 : Int))))) (some (false))) fun v66 => (cond v66 (Option.bind (m_step_shoot F j34_n2_f2.2 (IntKind.wrap .u8
        j34_44)) fun v74 => (Option.bind (appI j34_n2_f3 ([v74] : List T_api_Shot)) fun v76 => m_step_Step_L33 F p1 n (IntKind.wrap .i64 (j34_44 + (1
        : Int))) (j34_n2_f2.1, (T_api_Player.mk j34_n2_f2.2.X j34_n2_f2.2.Y j34_n2_f2.2.VX j34_n2_f2.2.VY j34_n2_f2.2.Health (10 : Int)
        j34_n2_f2.2.Face)) v76)) (m_step_Step_L33 F p1 n (IntKind.wrap .i64 (j34_44 + (1 : Int))) j34_n2_f2 j34_n2_f3)))))) none)) (some (j34_n2_f2,
        j34_n2_f3)))

def m_step_Step_L70 (F : Nat) : Nat → Int → Int → Int → (T_api_Player × T_api_Player) → (List T_api_Shot) → (Int × Int) → Option (Int × Int × (T_api_Player × T_api_Player) × (List T_api_Shot) × (Int × Int))
  | 0, _, _, _, _, _, _ => none
  | n + 1, j71_108, j71_n2_f0, j71_n2_f1, j71_n2_f2, j71_n2_f3, j71_n2_f4 =>
      (cond (decide (j71_108 < (2 : Int))) (cond (j71_108 == (0 : Int)) ((cond (j71_n2_f2.1.Health == (0 : Int)) (Option.bind (m_step_revive F
        (T_api_State.mk j71_n2_f0 j71_n2_f1 j71_n2_f2 j71_n2_f3 j71_n2_f4) j71_108) fun o118_0 => m_step_Step_L70 F n (IntKind.wrap .i64 (j71_108 + (1
        : Int))) o118_0.Frame o118_0.Seed o118_0.Players o118_0.Shots o118_0.Score) (m_step_Step_L70 F n (IntKind.wrap .i64 (j71_108 + (1 : Int)))
        j71_n2_f0 j71_n2_f1 j71_n2_f2 j71_n2_f3 j71_n2_f4))) (cond (j71_108 == (1 : Int)) ((cond (j71_n2_f2.2.Health == (0 : Int)) (Option.bind
        (m_step_revive F (T_api_State.mk j71_n2_f0 j71_n2_f1 j71_n2_f2 j71_n2_f3 j71_n2_f4) j71_108) fun o118_0 => m_step_Step_L70 F n (IntKind.wrap
        .i64 (j71_108 + (1 : Int))) o118_0.Frame o118_0.Seed o118_0.Players o118_0.Shots o118_0.Score) (m_step_Step_L70 F n (IntKind.wrap .i64
        (j71_108 + (1 : Int))) j71_n2_f0 j71_n2_f1 j71_n2_f2 j71_n2_f3 j71_n2_f4))) none)) (some (j71_n2_f0, j71_n2_f1, j71_n2_f2, j71_n2_f3,
        j71_n2_f4)))

def m_step_Step (F : Nat) (p0 : T_api_State) (p1 : (Int × Int)) : Option (T_api_State) :=
  (Option.bind (m_state_Copy F p0) fun v12 => (Option.bind (m_state_Check F v12) fun v14 => (Option.bind (cond (v14 != (0 : Int)) (some (true))
    ((Option.bind (m_input_Legal F p1.1) fun v19 => some ((!v19))))) fun v21 => (Option.bind (cond v21 (some (true)) ((Option.bind (m_input_Legal F
    p1.2) fun v25 => some ((!v25))))) fun v27 => (cond v27 (some v12) (Option.bind (m_step_Step_L16 F p1 F (0 : Int) v12.Players) fun l17_n2_f2 =>
    (Option.bind (m_step_Step_L33 F p1 F (0 : Int) l17_n2_f2 v12.Shots) fun (l34_n2_f2, l34_n2_f3) => (Option.bind (m_step_moved F l34_n2_f2.1) fun
    v85 => (Option.bind (m_step_moved F l34_n2_f2.2) fun v89 => (Option.bind (m_step_box F v85) fun v91 => (Option.bind (m_step_box F v89) fun v93 =>
    (Option.bind (m_geom_Over F v91 v93) fun v94 => (Option.bind ((cond v94 (Option.bind (m_step_stopped F l34_n2_f2.1) fun v98 => (Option.bind
    (m_step_stopped F l34_n2_f2.2) fun v102 => some (v98, v102))) (some (v85, v89)))) fun (j60_n8, j60_n9) => (Option.bind (m_step_fly F
    (T_api_State.mk v12.Frame v12.Seed (j60_n8, j60_n9) l34_n2_f3 v12.Score)) fun o107_0 => (Option.bind (m_step_Step_L70 F F (0 : Int) o107_0.Frame
    o107_0.Seed o107_0.Players o107_0.Shots o107_0.Score) fun (l71_n2_f0, l71_n2_f1, l71_n2_f2, l71_n2_f3, l71_n2_f4) => some (T_api_State.mk
    (IntKind.wrap .u64 (l71_n2_f0 + (1 : Int))) l71_n2_f1 l71_n2_f2 l71_n2_f3 l71_n2_f4))))))))))))))))

def m_rollback_Engine_Shown_L16 (F : Nat) (p0 : T_rollback_Engine) (p0_4 : T_queue_Queue) : Nat → Int → (Arr T_ring_place 14) → Int → Int → (T_api_Player × T_api_Player) → (List T_api_Shot) → (Int × Int) → Int → Int → (T_api_Player × T_api_Player) → (List T_api_Shot) → (Int × Int) → Option (Int × (Arr T_ring_place 14) × Int × Int × (T_api_Player × T_api_Player) × (List T_api_Shot) × (Int × Int) × Int × Int × (T_api_Player × T_api_Player) × (List T_api_Shot) × (Int × Int))
  | 0, _, _, _, _, _, _, _, _, _, _, _, _ => none
  | n + 1, j17_p0_5_f0, j17_p0_5_f1, j17_n3_f0, j17_n3_f1, j17_n3_f2, j17_n3_f3, j17_n3_f4, j17_n100003_f0, j17_n100003_f1, j17_n100003_f2, j17_n100003_f3, j17_n100003_f4 =>
      (Option.bind (m_rollback_Engine_T F p0 p0_4 (T_ring_Ring.mk j17_p0_5_f0 j17_p0_5_f1)) fun v24 => (cond (decide (j17_n3_f0 < v24)) (Option.bind
        (m_rollback_Engine_pair F p0 p0_4 (T_ring_Ring.mk j17_p0_5_f0 j17_p0_5_f1) j17_n100003_f0) fun v200007 => (Option.bind (m_step_Step F
        (T_api_State.mk j17_n100003_f0 j17_n100003_f1 j17_n100003_f2 j17_n100003_f3 j17_n100003_f4) v200007) fun v200008 => (Option.bind
        (m_ring_Ring_Put F (T_ring_Ring.mk j17_p0_5_f0 j17_p0_5_f1) v200008) fun (o200014_0, v200014) => m_rollback_Engine_Shown_L16 F p0 p0_4 n
        o200014_0.size o200014_0.places v200008.Frame v200008.Seed v200008.Players v200008.Shots v200008.Score v200008.Frame v200008.Seed
        v200008.Players v200008.Shots v200008.Score))) (some (j17_p0_5_f0, j17_p0_5_f1, j17_n3_f0, j17_n3_f1, j17_n3_f2, j17_n3_f3, j17_n3_f4,
        j17_n100003_f0, j17_n100003_f1, j17_n100003_f2, j17_n100003_f3, j17_n100003_f4))))

def m_rollback_Engine_Shown (F : Nat) (p0 : T_rollback_Engine) (p0_4 : T_queue_Queue) (p0_5 : T_ring_Ring) : Option (T_ring_Ring × T_api_State) :=
  (Option.bind (m_rollback_Engine_is F p0 p0_4 p0_5) fun v7 => (cond (!v7) (some (p0_5, (T_api_State.mk (0 : Int) (0 : Int) ((T_api_Player.mk (0 :
    Int) (0 : Int) (0 : Int) (0 : Int) (0 : Int) (0 : Int) (0 : Int)), (T_api_Player.mk (0 : Int) (0 : Int) (0 : Int) (0 : Int) (0 : Int) (0 : Int) (0
    : Int))) ([] : List T_api_Shot) ((0 : Int), (0 : Int))))) (Option.bind (m_ring_Ring_Newest F p0_5) fun (v15_0, v15_1) => (Option.bind
    (m_rollback_Engine_Shown_L16 F p0 p0_4 F p0_5.size p0_5.places v15_0.Frame v15_0.Seed v15_0.Players v15_0.Shots v15_0.Score v15_0.Frame v15_0.Seed
    v15_0.Players v15_0.Shots v15_0.Score) fun (l17_p0_5_f0, l17_p0_5_f1, l17_n3_f0, l17_n3_f1, l17_n3_f2, l17_n3_f3, l17_n3_f4, l17_n100003_f0,
    l17_n100003_f1, l17_n100003_f2, l17_n100003_f3, l17_n100003_f4) => (Option.bind (m_state_Copy F (T_api_State.mk l17_n3_f0 l17_n3_f1 l17_n3_f2
    l17_n3_f3 l17_n3_f4)) fun v29 => some ((T_ring_Ring.mk l17_p0_5_f0 l17_p0_5_f1), v29))))))

def m_queue_Queue_Add (F : Nat) (p0 : T_queue_Queue) (p1 : Int) (p2 : Int) : Option (T_queue_Queue × Int) :=
  (Option.bind (m_input_Legal F p2) fun v14 => (cond (!v14) (some (p0, (2 : Int))) (cond (decide (p1 < p0.first_)) (some (p0, (0 : Int))) (Option.bind
    (m_queue_Queue_At F p0 p1) fun (v26_0, v26_1) => (Option.bind (cond v26_1 (some ((v26_0 != p2))) (some (false))) fun v35 => (cond v35 (some (p0,
    (14 : Int))) (cond v26_1 (some (p0, (0 : Int))) (Option.bind (m_queue_Queue_Known F p0) fun v41 => (Option.bind (cond (decide (v41 < p1)) (some
    (true)) (some ((p1 == (18446744073709551615 : Int))))) fun v46 => (cond v46 (some (p0, (11 : Int))) (cond (decide ((24 : Int) ≤ (p0.l.length :
    Int))) (some (p0, (7 : Int))) (Option.bind (appI p0.l ([p2] : List Int)) fun v62 => some ((T_queue_Queue.mk p0.first_ v62 p2), (0 :
    Int))))))))))))))

def m_ring_Ring_Cut_L16 (F : Nat) (p0 : T_ring_Ring) (p1 : Int) : Nat → Int → Int → (Arr T_ring_place 14) → Option (Int × (Arr T_ring_place 14))
  | 0, _, _, _ => none
  | n + 1, j17_5, j17_15, j17_p0_f1 =>
      (cond (decide (j17_15 < (14 : Int))) (Option.bind (getI p0.places.1 j17_15) fun v18 => (Option.bind (cond v18.is_ (some ((decide (p1 <
        v18.s.Frame)))) (some (false))) fun v27 => (cond v27 (Option.bind (getI j17_p0_f1.1 j17_15) fun v33 => m_ring_Ring_Cut_L16 F p0 p1 n
        (IntKind.wrap .i64 (j17_5 + (1 : Int))) (IntKind.wrap .i64 (j17_15 + (1 : Int))) (Arr.set j17_p0_f1 j17_15 (T_ring_place.mk (T_api_State.mk (0
        : Int) (0 : Int) ((T_api_Player.mk (0 : Int) (0 : Int) (0 : Int) (0 : Int) (0 : Int) (0 : Int) (0 : Int)), (T_api_Player.mk (0 : Int) (0 :
        Int) (0 : Int) (0 : Int) (0 : Int) (0 : Int) (0 : Int))) ([] : List T_api_Shot) ((0 : Int), (0 : Int))) false))) (m_ring_Ring_Cut_L16 F p0 p1
        n j17_5 (IntKind.wrap .i64 (j17_15 + (1 : Int))) j17_p0_f1)))) (some (j17_5, j17_p0_f1)))

def m_ring_Ring_Cut (F : Nat) (p0 : T_ring_Ring) (p1 : Int) : Option (T_ring_Ring × Int) :=
  (Option.bind (m_ring_Ring_is F p0) fun v9 => (cond (!v9) (some (p0, (0 : Int))) (Option.bind (m_ring_Ring_Cut_L16 F p0 p1 F (0 : Int) (0 : Int)
    p0.places) fun (l17_5, l17_p0_f1) => some ((T_ring_Ring.mk p0.size l17_p0_f1), l17_5))))

def m_rollback_Engine_Remote (F : Nat) (p0 : T_rollback_Engine) (p0_4 : T_queue_Queue) (p0_5 : T_ring_Ring) (p1 : Int) (p2 : Int) : Option (T_queue_Queue × T_ring_Ring × Int) :=
  (Option.bind (m_rollback_Engine_is F p0 p0_4 p0_5) fun v11 => (cond (!v11) (some (p0_4, p0_5, (1 : Int))) (Option.bind (m_queue_Queue_Known F p0_4)
    fun v17 => (Option.bind (m_queue_Queue_Guess F p0_4 p1) fun v23 => (Option.bind (m_queue_Queue_Add F p0_4 p1 p2) fun (o30_0, v30) => (Option.bind
    (m_queue_Queue_Known F o30_0) fun v35 => (Option.bind (cond (decide (v17 < v35)) (some ((v23 != p2))) (some (false))) fun v42 => (Option.bind
    ((cond v42 (Option.bind (m_ring_Ring_Cut F p0_5 p1) fun (o48_0, v48) => some (o48_0.size, o48_0.places)) (some (p0_5.size, p0_5.places)))) fun
    (j18_p0_5_f0, j18_p0_5_f1) => some (o30_0, (T_ring_Ring.mk j18_p0_5_f0 j18_p0_5_f1), v30)))))))))

def m_rollback_Engine_Next (F : Nat) (p0 : T_rollback_Engine) (p0_4 : T_queue_Queue) (p0_5 : T_ring_Ring) : Option ((Int × Int) × Bool) :=
  (Option.bind (m_rollback_Engine_is F p0 p0_4 p0_5) fun v5 => (Option.bind (cond (!v5) (some (true)) (some (((p0.own.length : Int) == (0 : Int)))))
    fun v14 => (Option.bind (cond v14 (some (true)) ((Option.bind (m_queue_Queue_Known F p0_4) fun v20 => some ((decide (v20 ≤ p0.sure.Frame)))))) fun
    v27 => (cond v27 (some (((0 : Int), (0 : Int)), false)) (Option.bind (m_rollback_Engine_pair F p0 p0_4 p0_5 p0.sure.Frame) fun v35 => some (v35,
    true))))))

def m_queue_Queue_Drop (F : Nat) (p0 : T_queue_Queue) (p1 : Int) : Option (T_queue_Queue) :=
  (cond (decide (p1 ≤ p0.first_)) (some p0) (Option.bind (m_queue_Queue_Known F p0) fun v17 => (Option.bind (cutI p0.l (IntKind.wrap .u64 ((min p1
    v17) - p0.first_)) (p0.l.length : Int)) fun v33 => (Option.bind (cutI (copyL p0.l v33) 0 ((min v33.length p0.l.length : Nat) : Int)) fun v42 =>
    some (T_queue_Queue.mk (min p1 v17) v42 p0.last)))))

def m_rollback_Engine_Confirm (F : Nat) (p0 : T_rollback_Engine) (p0_4 : T_queue_Queue) (p0_5 : T_ring_Ring) (p1 : Int) : Option (T_rollback_Engine × T_queue_Queue × T_ring_Ring × (Int × Int) × Bool) :=
  (Option.bind (m_rollback_Engine_Next F p0 p0_4 p0_5) fun (v10_0, v10_1) => (Option.bind (cond (!v10_1) (some (true)) (some ((decide (p1 ≤
    p0.sure.Frame))))) fun v23 => (cond v23 (some (p0, p0_4, p0_5, ((0 : Int), (0 : Int)), false)) (Option.bind (m_step_Step F p0.sure v10_0) fun v31
    => (Option.bind (cutI p0.own (1 : Int) (p0.own.length : Int)) fun v39 => (Option.bind (m_slices_Clone___api_Input_api_Input F v39) fun v40 =>
    (Option.bind (m_queue_Queue_Drop F p0_4 v31.Frame) fun o52_0 => (Option.bind (m_ring_Ring_Put F p0_5 v31) fun (o61_0, v61) => some
    ((T_rollback_Engine.mk p0.player p0.window v31 v40), o52_0, o61_0, v10_0, true)))))))))

def m_hindcastlaw26_works (F : Nat) : Option (Bool) :=
  (Option.bind (m_state_Start F (7 : Int)) fun v4 => (Option.bind (m_rollback_New F v4 (0 : Int) (2 : Int)) fun v5 => poE (some false) (fun v5s =>
    (Option.bind (m_rollback_Engine_Local F v5s.1 v5s.2.1 v5s.2.2 (2 : Int)) fun (o10_0, v10) => (Option.bind (cond (v10 != (0 : Int)) (some (true,
    o10_0.player, o10_0.window, o10_0.sure.Frame, o10_0.sure.Seed, o10_0.sure.Players, o10_0.sure.Shots, o10_0.sure.Score, o10_0.own)) ((Option.bind
    (m_rollback_Engine_Local F o10_0 v5s.2.1 v5s.2.2 (2 : Int)) fun (o15_0, v15) => some ((v15 != (0 : Int)), o15_0.player, o15_0.window,
    o15_0.sure.Frame, o15_0.sure.Seed, o15_0.sure.Players, o15_0.sure.Shots, o15_0.sure.Score, o15_0.own)))) fun (v17, g17_n5_0_f0, g17_n5_0_f1,
    g17_n5_0_f2_0, g17_n5_0_f2_1, g17_n5_0_f2_2, g17_n5_0_f2_3, g17_n5_0_f2_4, g17_n5_0_f3) => (Option.bind (cond v17 (some (true, g17_n5_0_f0,
    g17_n5_0_f1, g17_n5_0_f2_0, g17_n5_0_f2_1, g17_n5_0_f2_2, g17_n5_0_f2_3, g17_n5_0_f2_4, g17_n5_0_f3)) ((Option.bind (m_rollback_Engine_Local F
    (T_rollback_Engine.mk g17_n5_0_f0 g17_n5_0_f1 (T_api_State.mk g17_n5_0_f2_0 g17_n5_0_f2_1 g17_n5_0_f2_2 g17_n5_0_f2_3 g17_n5_0_f2_4) g17_n5_0_f3)
    v5s.2.1 v5s.2.2 (2 : Int)) fun (o20_0, v20) => some ((v20 != (7 : Int)), o20_0.player, o20_0.window, o20_0.sure.Frame, o20_0.sure.Seed,
    o20_0.sure.Players, o20_0.sure.Shots, o20_0.sure.Score, o20_0.own)))) fun (v22, g22_n5_0_f0, g22_n5_0_f1, g22_n5_0_f2_0, g22_n5_0_f2_1,
    g22_n5_0_f2_2, g22_n5_0_f2_3, g22_n5_0_f2_4, g22_n5_0_f3) => (Option.bind (cond v22 (some (true, v5s.2.2.size, v5s.2.2.places)) ((Option.bind
    (m_rollback_Engine_Shown F (T_rollback_Engine.mk g22_n5_0_f0 g22_n5_0_f1 (T_api_State.mk g22_n5_0_f2_0 g22_n5_0_f2_1 g22_n5_0_f2_2 g22_n5_0_f2_3
    g22_n5_0_f2_4) g22_n5_0_f3) v5s.2.1 v5s.2.2) fun (o25_2, v25) => some ((v25.Players.1.X != (8384 : Int)), o25_2.size, o25_2.places)))) fun (v30,
    g30_n5_0_5_f0, g30_n5_0_5_f1) => (Option.bind (cond v30 (some (true, v5s.2.1.first_, v5s.2.1.l, v5s.2.1.last, g30_n5_0_5_f0, g30_n5_0_5_f1))
    ((Option.bind (m_rollback_Engine_Remote F (T_rollback_Engine.mk g22_n5_0_f0 g22_n5_0_f1 (T_api_State.mk g22_n5_0_f2_0 g22_n5_0_f2_1 g22_n5_0_f2_2
    g22_n5_0_f2_3 g22_n5_0_f2_4) g22_n5_0_f3) v5s.2.1 (T_ring_Ring.mk g30_n5_0_5_f0 g30_n5_0_5_f1) (0 : Int) (1 : Int)) fun (o33_1, o33_2, v33) =>
    some ((v33 != (0 : Int)), o33_1.first_, o33_1.l, o33_1.last, o33_2.size, o33_2.places)))) fun (v35, g35_n5_0_4_f0, g35_n5_0_4_f1, g35_n5_0_4_f2,
    g35_n5_0_5_f0, g35_n5_0_5_f1) => (cond v35 (some false) (Option.bind (m_rollback_Engine_Confirm F (T_rollback_Engine.mk g22_n5_0_f0 g22_n5_0_f1
    (T_api_State.mk g22_n5_0_f2_0 g22_n5_0_f2_1 g22_n5_0_f2_2 g22_n5_0_f2_3 g22_n5_0_f2_4) g22_n5_0_f3) (T_queue_Queue.mk g35_n5_0_4_f0 g35_n5_0_4_f1
    g35_n5_0_4_f2) (T_ring_Ring.mk g35_n5_0_5_f0 g35_n5_0_5_f1) (9 : Int)) fun (o38_0, o38_1, o38_2, v38_0, v38_1) => (Option.bind
    (m_rollback_Engine_Shown F o38_0 o38_1 o38_2) fun (o42_2, v42) => (Option.bind (cond (v42.Players.2.VX == (-128 : Int)) (some (v38_1)) (some
    (false))) fun v49 => (Option.bind (cond v49 (some (((v38_0.1 == (2 : Int)) && (v38_0.2 == (1 : Int))))) (some (false))) fun v54 => (Option.bind
    (cond v54 ((Option.bind (m_rollback_Engine_C F o38_0 o38_1 o42_2) fun v57 => some ((v57 == (1 : Int))))) (some (false))) fun v59 => (Option.bind
    (cond v59 ((Option.bind (m_rollback_Engine_T F o38_0 o38_1 o42_2) fun v62 => some ((v62 == (2 : Int))))) (some (false))) fun v64 => some
    v64))))))))))))) v5))

def m_hindcastlaw26_at (F : Nat) (p0 : (List Int)) (p1 : Int) : Option (Int) :=
  (cond (decide (p1 < (p0.length : Int))) (Option.bind (getI p0 p1) fun v11 => some (Int.tmod v11 64)) (some (0 : Int)))

def m_rollback_Engine_Known (F : Nat) (p0 : T_rollback_Engine) (p0_4 : T_queue_Queue) (p0_5 : T_ring_Ring) : Option (Int) :=
  (Option.bind (m_rollback_Engine_is F p0 p0_4 p0_5) fun v4 => (cond (!v4) (some (0 : Int)) (Option.bind (m_queue_Queue_Known F p0_4) fun v10 => some
    v10)))

def m_hindcastlaw26_Game_pair (F : Nat) (p0 : T_hindcastlaw26_Game) (p1 : Int) : Option ((Int × Int)) :=
  (Option.bind (m_hindcastlaw26_at F p0.Mine p1) fun v13 => (cond ((Int.tmod p0.Player 2) == (0 : Int)) ((Option.bind (m_hindcastlaw26_at F p0.Theirs
    p1) fun v22 => (cond ((IntKind.wrap .u8 ((1 : Int) - (Int.tmod p0.Player 2))) == (0 : Int)) (some (v22, (0 : Int))) (cond ((IntKind.wrap .u8 ((1 :
    Int) - (Int.tmod p0.Player 2))) == (1 : Int)) (some (v13, v22)) none)))) (cond ((Int.tmod p0.Player 2) == (1 : Int)) ((Option.bind
    (m_hindcastlaw26_at F p0.Theirs p1) fun v22 => (cond ((IntKind.wrap .u8 ((1 : Int) - (Int.tmod p0.Player 2))) == (0 : Int)) (some (v22, v13))
    (cond ((IntKind.wrap .u8 ((1 : Int) - (Int.tmod p0.Player 2))) == (1 : Int)) (some ((0 : Int), v22)) none)))) none)))

def m_hindcastlaw26_Game_pairs_L8 (F : Nat) (p0 : T_hindcastlaw26_Game) (p1 : Int) : Nat → (List (Int × Int)) → Int → Option ((List (Int × Int)))
  | 0, _, _ => none
  | n + 1, j9_5, j9_6 =>
      (cond (decide (j9_6 < p1)) (Option.bind (m_hindcastlaw26_Game_pair F p0 j9_6) fun v15 => (Option.bind (appI j9_5 ([v15] : List (Int × Int))) fun
        v17 => m_hindcastlaw26_Game_pairs_L8 F p0 p1 n v17 (IntKind.wrap .i64 (j9_6 + (1 : Int))))) (some j9_5))

def m_hindcastlaw26_Game_pairs (F : Nat) (p0 : T_hindcastlaw26_Game) (p1 : Int) : Option ((List (Int × Int))) :=
  (Option.bind (m_hindcastlaw26_Game_pairs_L8 F p0 p1 F ([] : List (Int × Int)) (0 : Int)) fun l9_5 => some l9_5)

def m_fold_Fold_L8 (F : Nat) (p1 : (List (Int × Int))) : Nat → Int → Int → Int → (T_api_Player × T_api_Player) → (List T_api_Shot) → (Int × Int) → Option (Int × Int × (T_api_Player × T_api_Player) × (List T_api_Shot) × (Int × Int))
  | 0, _, _, _, _, _, _ => none
  | n + 1, j9_11, j9_n2_f0, j9_n2_f1, j9_n2_f2, j9_n2_f3, j9_n2_f4 =>
      (cond (decide (j9_11 < (p1.length : Int))) (Option.bind (getI p1 j9_11) fun v13 => (Option.bind (m_step_Step F (T_api_State.mk j9_n2_f0 j9_n2_f1
        j9_n2_f2 j9_n2_f3 j9_n2_f4) v13) fun v17 => m_fold_Fold_L8 F p1 n (IntKind.wrap .i64 (j9_11 + (1 : Int))) v17.Frame v17.Seed v17.Players
        v17.Shots v17.Score)) (some (j9_n2_f0, j9_n2_f1, j9_n2_f2, j9_n2_f3, j9_n2_f4)))

def m_fold_Fold (F : Nat) (p0 : T_api_State) (p1 : (List (Int × Int))) : Option (T_api_State) :=
  (Option.bind (m_state_Copy F p0) fun v8 => (Option.bind (m_fold_Fold_L8 F p1 F (0 : Int) v8.Frame v8.Seed v8.Players v8.Shots v8.Score) fun
    (l9_n2_f0, l9_n2_f1, l9_n2_f2, l9_n2_f3, l9_n2_f4) => some (T_api_State.mk l9_n2_f0 l9_n2_f1 l9_n2_f2 l9_n2_f3 l9_n2_f4)))

def m_hindcastlaw26_Game_shown_L8 (F : Nat) (p0 : T_hindcastlaw26_Game) (p2 : Int) (p3 : Int) : Nat → Int → Int → Int → (T_api_Player × T_api_Player) → (List T_api_Shot) → (Int × Int) → Option (Int × Int × (T_api_Player × T_api_Player) × (List T_api_Shot) × (Int × Int))
  | 0, _, _, _, _, _, _ => none
  | n + 1, j9_10, j9_n9_f0, j9_n9_f1, j9_n9_f2, j9_n9_f3, j9_n9_f4 =>
      (cond (decide (j9_10 < p2)) (Option.bind (m_hindcastlaw26_Game_pair F p0 j9_10) fun v27 => (Option.bind ((cond (decide (p3 ≤ j9_10)) (cond
        ((IntKind.wrap .u8 ((1 : Int) - (Int.tmod p0.Player 2))) == (0 : Int)) ((cond (decide ((0 : Int) < p3)) (Option.bind (m_hindcastlaw26_at F
        p0.Theirs (IntKind.wrap .i64 (p3 - (1 : Int)))) fun v46 => some (v46, v27.2)) (some ((0 : Int), v27.2)))) (cond ((IntKind.wrap .u8 ((1 : Int)
        - (Int.tmod p0.Player 2))) == (1 : Int)) ((cond (decide ((0 : Int) < p3)) (Option.bind (m_hindcastlaw26_at F p0.Theirs (IntKind.wrap .i64 (p3
        - (1 : Int)))) fun v46 => some (v27.1, v46)) (some (v27.1, (0 : Int))))) none)) (some v27))) fun j23_n11 => (Option.bind (m_fold_Fold F
        (T_api_State.mk j9_n9_f0 j9_n9_f1 j9_n9_f2 j9_n9_f3 j9_n9_f4) ([j23_n11] : List (Int × Int))) fun v51 => m_hindcastlaw26_Game_shown_L8 F p0 p2
        p3 n (IntKind.wrap .i64 (j9_10 + (1 : Int))) v51.Frame v51.Seed v51.Players v51.Shots v51.Score))) (some (j9_n9_f0, j9_n9_f1, j9_n9_f2,
        j9_n9_f3, j9_n9_f4)))

def m_hindcastlaw26_Game_shown (F : Nat) (p0 : T_hindcastlaw26_Game) (p1 : Int) (p2 : Int) (p3 : Int) : Option (T_api_State) :=
  (Option.bind (m_state_Start F p0.Seed) fun v14 => (Option.bind (m_hindcastlaw26_Game_pairs F p0 p1) fun v17 => (Option.bind (m_fold_Fold F v14 v17)
    fun v18 => (Option.bind (m_hindcastlaw26_Game_shown_L8 F p0 p2 p3 F p1 v18.Frame v18.Seed v18.Players v18.Shots v18.Score) fun (l9_n9_f0,
    l9_n9_f1, l9_n9_f2, l9_n9_f3, l9_n9_f4) => some (T_api_State.mk l9_n9_f0 l9_n9_f1 l9_n9_f2 l9_n9_f3 l9_n9_f4)))))

def m_slices_Equal___api_Shot_api_Shot_L14 (F : Nat) (p0 : (List T_api_Shot)) (p1 : (List T_api_Shot)) : Nat → Int → Option ((Bool) ⊕ (Bool))
  | 0, _ => none
  | n + 1, j15_13 =>
      (cond (decide (j15_13 < (p0.length : Int))) (Option.bind (getI p0 j15_13) fun v18 => (Option.bind (getI p1 j15_13) fun v22 => (cond (!((v18.X ==
        v22.X) && ((v18.Y == v22.Y) && ((v18.VX == v22.VX) && ((v18.VY == v22.VY) && ((v18.Owner == v22.Owner) && (v18.Life == v22.Life))))))) (some
        (.inr false)) (m_slices_Equal___api_Shot_api_Shot_L14 F p0 p1 n (IntKind.wrap .i64 (j15_13 + (1 : Int))))))) (some (.inl false)))

def m_slices_Equal___api_Shot_api_Shot (F : Nat) (p0 : (List T_api_Shot)) (p1 : (List T_api_Shot)) : Option (Bool) :=
  (cond ((p0.length : Int) != (p1.length : Int)) (some false) (Option.bind (m_slices_Equal___api_Shot_api_Shot_L14 F p0 p1 F (0 : Int)) (orE (fun
    l15_4 => some true) (fun r15 => some r15))))

def m_state_Same (F : Nat) (p0 : T_api_State) (p1 : T_api_State) : Option (Bool) :=
  (Option.bind (cond (p0.Frame == p1.Frame) (some ((p0.Seed == p1.Seed))) (some (false))) fun v16 => (Option.bind (cond v16 (some ((((p0.Players.1.X
    == p1.Players.1.X) && ((p0.Players.1.Y == p1.Players.1.Y) && ((p0.Players.1.VX == p1.Players.1.VX) && ((p0.Players.1.VY == p1.Players.1.VY) &&
    ((p0.Players.1.Health == p1.Players.1.Health) && ((p0.Players.1.Cool == p1.Players.1.Cool) && (p0.Players.1.Face == p1.Players.1.Face))))))) &&
    ((p0.Players.2.X == p1.Players.2.X) && ((p0.Players.2.Y == p1.Players.2.Y) && ((p0.Players.2.VX == p1.Players.2.VX) && ((p0.Players.2.VY ==
    p1.Players.2.VY) && ((p0.Players.2.Health == p1.Players.2.Health) && ((p0.Players.2.Cool == p1.Players.2.Cool) && (p0.Players.2.Face ==
    p1.Players.2.Face)))))))))) (some (false))) fun v23 => (Option.bind (cond v23 (some (((p0.Score.1 == p1.Score.1) && (p0.Score.2 == p1.Score.2))))
    (some (false))) fun v30 => (Option.bind (cond v30 ((Option.bind (m_slices_Equal___api_Shot_api_Shot F p0.Shots p1.Shots) fun v36 => some (v36)))
    (some (false))) fun v37 => some v37))))

def m_rollback_Engine_State (F : Nat) (p0 : T_rollback_Engine) (p0_4 : T_queue_Queue) (p0_5 : T_ring_Ring) : Option (T_api_State) :=
  (Option.bind (m_rollback_Engine_is F p0 p0_4 p0_5) fun v4 => (cond (!v4) (some (T_api_State.mk (0 : Int) (0 : Int) ((T_api_Player.mk (0 : Int) (0 :
    Int) (0 : Int) (0 : Int) (0 : Int) (0 : Int) (0 : Int)), (T_api_Player.mk (0 : Int) (0 : Int) (0 : Int) (0 : Int) (0 : Int) (0 : Int) (0 : Int)))
    ([] : List T_api_Shot) ((0 : Int), (0 : Int)))) (Option.bind (m_state_Copy F p0.sure) fun v11 => some v11)))

def m_hindcastlaw26_RollbackTrue_L28 (F : Nat) (p0 : T_hindcastlaw26_Game) (p1 : (List Int)) : Nat → Int → Int → Int → Int → Int → Int → Int → Int → (T_api_Player × T_api_Player) → (List T_api_Shot) → (Int × Int) → (List Int) → Int → (List Int) → Int → Int → (Arr T_ring_place 14) → Option ((Bool × Int × Int × Int × Int × Int × Int × Int × (T_api_Player × T_api_Player) × (List T_api_Shot) × (Int × Int) × (List Int) × Int × (List Int) × Int × Int × (Arr T_ring_place 14)) ⊕ (Bool))
  | 0, _, _, _, _, _, _, _, _, _, _, _, _, _, _, _, _, _ => none
  | n + 1, j29_7, j29_8, j29_9, j29_10, j29_n45_0_f0, j29_n45_0_f1, j29_n45_0_f2_0, j29_n45_0_f2_1, j29_n45_0_f2_2, j29_n45_0_f2_3, j29_n45_0_f2_4, j29_n45_0_f3, j29_n45_0_4_f0, j29_n45_0_4_f1, j29_n45_0_4_f2, j29_n45_0_5_f0, j29_n45_0_5_f1 =>
      (cond (decide (j29_10 < (p1.length : Int))) (Option.bind (getI p1 j29_10) fun v56 => (Option.bind (getI p1 j29_10) fun v62 => (cond ((Int.tmod
        v62 4) == (0 : Int)) (Option.bind (m_hindcastlaw26_at F p0.Mine j29_8) fun v102 => (Option.bind (m_rollback_Engine_Local F
        (T_rollback_Engine.mk j29_n45_0_f0 j29_n45_0_f1 (T_api_State.mk j29_n45_0_f2_0 j29_n45_0_f2_1 j29_n45_0_f2_2 j29_n45_0_f2_3 j29_n45_0_f2_4)
        j29_n45_0_f3) (T_queue_Queue.mk j29_n45_0_4_f0 j29_n45_0_4_f1 j29_n45_0_4_f2) (T_ring_Ring.mk j29_n45_0_5_f0 j29_n45_0_5_f1) v102) fun
        (o103_0, v103) => (cond ((v103 == (0 : Int)) != (decide ((IntKind.wrap .i64 (j29_8 - j29_7)) < (IntKind.wrap .i64 ((1 : Int) + (IntKind.wrap
        .i64 (Int.tmod p0.Window 12))))))) (some (.inr false)) (cond (v103 == (0 : Int)) (Option.bind (m_rollback_Engine_C F o103_0 (T_queue_Queue.mk
        j29_n45_0_4_f0 j29_n45_0_4_f1 j29_n45_0_4_f2) (T_ring_Ring.mk j29_n45_0_5_f0 j29_n45_0_5_f1)) fun v150 => (Option.bind (cond (v150 !=
        (IntKind.wrap .u64 j29_7)) (some (true)) ((Option.bind (m_rollback_Engine_T F o103_0 (T_queue_Queue.mk j29_n45_0_4_f0 j29_n45_0_4_f1
        j29_n45_0_4_f2) (T_ring_Ring.mk j29_n45_0_5_f0 j29_n45_0_5_f1)) fun v156 => some ((v156 != (IntKind.wrap .u64 (IntKind.wrap .i64 (j29_8 + (1 :
        Int))))))))) fun v160 => (Option.bind (cond v160 (some (true)) ((Option.bind (m_rollback_Engine_Known F o103_0 (T_queue_Queue.mk
        j29_n45_0_4_f0 j29_n45_0_4_f1 j29_n45_0_4_f2) (T_ring_Ring.mk j29_n45_0_5_f0 j29_n45_0_5_f1)) fun v163 => some ((v163 != (IntKind.wrap .u64
        j29_9)))))) fun v167 => (Option.bind (cond v167 (some (true)) (some ((decide ((IntKind.wrap .i64 ((1 : Int) + (IntKind.wrap .i64 (Int.tmod
        p0.Window 12)))) < (IntKind.wrap .i64 ((IntKind.wrap .i64 (j29_8 + (1 : Int))) - j29_7))))))) fun v174 => (cond v174 (some (.inr false))
        (Option.bind (cond ((Int.tmod (IntKind.wrap .i64 (IntKind.wrap .u8 (Int.tdiv v56 4))) 3) == (0 : Int)) ((Option.bind (m_rollback_Engine_Shown
        F o103_0 (T_queue_Queue.mk j29_n45_0_4_f0 j29_n45_0_4_f1 j29_n45_0_4_f2) (T_ring_Ring.mk j29_n45_0_5_f0 j29_n45_0_5_f1)) fun (o180_2, v180) =>
        (Option.bind (m_hindcastlaw26_Game_shown F p0 j29_7 (IntKind.wrap .i64 (j29_8 + (1 : Int))) j29_9) fun v185 => (Option.bind (m_state_Same F
        v180 v185) fun v186 => some ((!v186), o180_2.size, o180_2.places))))) (some (false, j29_n45_0_5_f0, j29_n45_0_5_f1))) fun (v188,
        g188_n45_0_5_f0, g188_n45_0_5_f1) => (cond v188 (some (.inr false)) (m_hindcastlaw26_RollbackTrue_L28 F p0 p1 n j29_7 (IntKind.wrap .i64
        (j29_8 + (1 : Int))) j29_9 (IntKind.wrap .i64 (j29_10 + (1 : Int))) o103_0.player o103_0.window o103_0.sure.Frame o103_0.sure.Seed
        o103_0.sure.Players o103_0.sure.Shots o103_0.sure.Score o103_0.own j29_n45_0_4_f0 j29_n45_0_4_f1 j29_n45_0_4_f2 g188_n45_0_5_f0
        g188_n45_0_5_f1)))))))) (Option.bind (m_rollback_Engine_C F o103_0 (T_queue_Queue.mk j29_n45_0_4_f0 j29_n45_0_4_f1 j29_n45_0_4_f2)
        (T_ring_Ring.mk j29_n45_0_5_f0 j29_n45_0_5_f1)) fun v150 => (Option.bind (cond (v150 != (IntKind.wrap .u64 j29_7)) (some (true)) ((Option.bind
        (m_rollback_Engine_T F o103_0 (T_queue_Queue.mk j29_n45_0_4_f0 j29_n45_0_4_f1 j29_n45_0_4_f2) (T_ring_Ring.mk j29_n45_0_5_f0 j29_n45_0_5_f1))
        fun v156 => some ((v156 != (IntKind.wrap .u64 j29_8)))))) fun v160 => (Option.bind (cond v160 (some (true)) ((Option.bind
        (m_rollback_Engine_Known F o103_0 (T_queue_Queue.mk j29_n45_0_4_f0 j29_n45_0_4_f1 j29_n45_0_4_f2) (T_ring_Ring.mk j29_n45_0_5_f0
        j29_n45_0_5_f1)) fun v163 => some ((v163 != (IntKind.wrap .u64 j29_9)))))) fun v167 => (Option.bind (cond v167 (some (true)) (some ((decide
        ((IntKind.wrap .i64 ((1 : Int) + (IntKind.wrap .i64 (Int.tmod p0.Window 12)))) < (IntKind.wrap .i64 (j29_8 - j29_7))))))) fun v174 => (cond
        v174 (some (.inr false)) (Option.bind (cond ((Int.tmod (IntKind.wrap .i64 (IntKind.wrap .u8 (Int.tdiv v56 4))) 3) == (0 : Int)) ((Option.bind
        (m_rollback_Engine_Shown F o103_0 (T_queue_Queue.mk j29_n45_0_4_f0 j29_n45_0_4_f1 j29_n45_0_4_f2) (T_ring_Ring.mk j29_n45_0_5_f0
        j29_n45_0_5_f1)) fun (o180_2, v180) => (Option.bind (m_hindcastlaw26_Game_shown F p0 j29_7 j29_8 j29_9) fun v185 => (Option.bind (m_state_Same
        F v180 v185) fun v186 => some ((!v186), o180_2.size, o180_2.places))))) (some (false, j29_n45_0_5_f0, j29_n45_0_5_f1))) fun (v188,
        g188_n45_0_5_f0, g188_n45_0_5_f1) => (cond v188 (some (.inr false)) (m_hindcastlaw26_RollbackTrue_L28 F p0 p1 n j29_7 j29_8 j29_9
        (IntKind.wrap .i64 (j29_10 + (1 : Int))) o103_0.player o103_0.window o103_0.sure.Frame o103_0.sure.Seed o103_0.sure.Players o103_0.sure.Shots
        o103_0.sure.Score o103_0.own j29_n45_0_4_f0 j29_n45_0_4_f1 j29_n45_0_4_f2 g188_n45_0_5_f0 g188_n45_0_5_f1)))))))))))) (Option.bind ((cond
        ((Int.tmod v62 4) == (1 : Int)) (some ((Int.tmod v62 4) == (1 : Int))) (some ((Int.tmod v62 4) == (2 : Int))))) fun j65_116 => (cond j65_116
        (Option.bind (m_hindcastlaw26_at F p0.Theirs (max (0 : Int) (IntKind.wrap .i64 ((IntKind.wrap .i64 (j29_9 + (1 : Int))) - (Int.tmod
        (IntKind.wrap .i64 (IntKind.wrap .u8 (Int.tdiv v56 4))) 4))))) fun v131 => (Option.bind (m_rollback_Engine_Remote F (T_rollback_Engine.mk
        j29_n45_0_f0 j29_n45_0_f1 (T_api_State.mk j29_n45_0_f2_0 j29_n45_0_f2_1 j29_n45_0_f2_2 j29_n45_0_f2_3 j29_n45_0_f2_4) j29_n45_0_f3)
        (T_queue_Queue.mk j29_n45_0_4_f0 j29_n45_0_4_f1 j29_n45_0_4_f2) (T_ring_Ring.mk j29_n45_0_5_f0 j29_n45_0_5_f1) (IntKind.wrap .u64 (max (0 :
        Int) (IntKind.wrap .i64 ((IntKind.wrap .i64 (j29_9 + (1 : Int))) - (Int.tmod (IntKind.wrap .i64 (IntKind.wrap .u8 (Int.tdiv v56 4))) 4)))))
        v131) fun (o132_1, o132_2, v132) => (Option.bind (cond (v132 == (0 : Int)) (some (((max (0 : Int) (IntKind.wrap .i64 ((IntKind.wrap .i64
        (j29_9 + (1 : Int))) - (Int.tmod (IntKind.wrap .i64 (IntKind.wrap .u8 (Int.tdiv v56 4))) 4)))) == j29_9))) (some (false))) fun v139 =>
        (Option.bind ((cond v139 (some (IntKind.wrap .i64 (j29_9 + (1 : Int)))) (some j29_9))) fun j76_9 => (Option.bind (cond (v132 != (0 : Int))
        (some ((decide ((max (0 : Int) (IntKind.wrap .i64 ((IntKind.wrap .i64 (j29_9 + (1 : Int))) - (Int.tmod (IntKind.wrap .i64 (IntKind.wrap .u8
        (Int.tdiv v56 4))) 4)))) < j76_9)))) (some (false))) fun v148 => (cond v148 (some (.inr false)) (Option.bind (m_rollback_Engine_C F
        (T_rollback_Engine.mk j29_n45_0_f0 j29_n45_0_f1 (T_api_State.mk j29_n45_0_f2_0 j29_n45_0_f2_1 j29_n45_0_f2_2 j29_n45_0_f2_3 j29_n45_0_f2_4)
        j29_n45_0_f3) o132_1 o132_2) fun v150 => (Option.bind (cond (v150 != (IntKind.wrap .u64 j29_7)) (some (true)) ((Option.bind
        (m_rollback_Engine_T F (T_rollback_Engine.mk j29_n45_0_f0 j29_n45_0_f1 (T_api_State.mk j29_n45_0_f2_0 j29_n45_0_f2_1 j29_n45_0_f2_2
        j29_n45_0_f2_3 j29_n45_0_f2_4) j29_n45_0_f3) o132_1 o132_2) fun v156 => some ((v156 != (IntKind.wrap .u64 j29_8)))))) fun v160 => (Option.bind
        (cond v160 (some (true)) ((Option.bind (m_rollback_Engine_Known F (T_rollback_Engine.mk j29_n45_0_f0 j29_n45_0_f1 (T_api_State.mk
        j29_n45_0_f2_0 j29_n45_0_f2_1 j29_n45_0_f2_2 j29_n45_0_f2_3 j29_n45_0_f2_4) j29_n45_0_f3) o132_1 o132_2) fun v163 => some ((v163 !=
        (IntKind.wrap .u64 j76_9)))))) fun v167 => (Option.bind (cond v167 (some (true)) (some ((decide ((IntKind.wrap .i64 ((1 : Int) + (IntKind.wrap
        .i64 (Int.tmod p0.Window 12)))) < (IntKind.wrap .i64 (j29_8 - j29_7))))))) fun v174 => (cond v174 (some (.inr false)) (Option.bind (cond
        ((Int.tmod (IntKind.wrap .i64 (IntKind.wrap .u8 (Int.tdiv v56 4))) 3) == (0 : Int)) ((Option.bind (m_rollback_Engine_Shown F
        (T_rollback_Engine.mk j29_n45_0_f0 j29_n45_0_f1 (T_api_State.mk j29_n45_0_f2_0 j29_n45_0_f2_1 j29_n45_0_f2_2 j29_n45_0_f2_3 j29_n45_0_f2_4)
        j29_n45_0_f3) o132_1 o132_2) fun (o180_2, v180) => (Option.bind (m_hindcastlaw26_Game_shown F p0 j29_7 j29_8 j76_9) fun v185 => (Option.bind
        (m_state_Same F v180 v185) fun v186 => some ((!v186), o180_2.size, o180_2.places))))) (some (false, o132_2.size, o132_2.places))) fun (v188,
        g188_n45_0_5_f0, g188_n45_0_5_f1) => (cond v188 (some (.inr false)) (m_hindcastlaw26_RollbackTrue_L28 F p0 p1 n j29_7 j29_8 j76_9
        (IntKind.wrap .i64 (j29_10 + (1 : Int))) j29_n45_0_f0 j29_n45_0_f1 j29_n45_0_f2_0 j29_n45_0_f2_1 j29_n45_0_f2_2 j29_n45_0_f2_3 j29_n45_0_f2_4
        j29_n45_0_f3 o132_1.first_ o132_1.l o132_1.last g188_n45_0_5_f0 g188_n45_0_5_f1)))))))))))))) (Option.bind (m_rollback_Engine_Confirm F
        (T_rollback_Engine.mk j29_n45_0_f0 j29_n45_0_f1 (T_api_State.mk j29_n45_0_f2_0 j29_n45_0_f2_1 j29_n45_0_f2_2 j29_n45_0_f2_3 j29_n45_0_f2_4)
        j29_n45_0_f3) (T_queue_Queue.mk j29_n45_0_4_f0 j29_n45_0_4_f1 j29_n45_0_4_f2) (T_ring_Ring.mk j29_n45_0_5_f0 j29_n45_0_5_f1) (IntKind.wrap
        .u64 (IntKind.wrap .i64 (j29_7 + (1 : Int))))) fun (o70_0, o70_1, o70_2, v70_0, v70_1) => (Option.bind (cond (decide (j29_7 < j29_8)) (some
        ((decide (j29_7 < j29_9)))) (some (false))) fun v81 => (Option.bind (cond (v70_1 != v81) (some (true)) ((Option.bind (cond v70_1 ((Option.bind
        (m_hindcastlaw26_Game_pair F p0 j29_7) fun v89 => some ((!((v70_0.1 == v89.1) && (v70_0.2 == v89.2)))))) (some (false))) fun v91 => some
        (v91)))) fun v92 => (cond v92 (some (.inr false)) (cond v70_1 (Option.bind (m_rollback_Engine_C F o70_0 o70_1 o70_2) fun v150 => (Option.bind
        (cond (v150 != (IntKind.wrap .u64 (IntKind.wrap .i64 (j29_7 + (1 : Int))))) (some (true)) ((Option.bind (m_rollback_Engine_T F o70_0 o70_1
        o70_2) fun v156 => some ((v156 != (IntKind.wrap .u64 j29_8)))))) fun v160 => (Option.bind (cond v160 (some (true)) ((Option.bind
        (m_rollback_Engine_Known F o70_0 o70_1 o70_2) fun v163 => some ((v163 != (IntKind.wrap .u64 j29_9)))))) fun v167 => (Option.bind (cond v167
        (some (true)) (some ((decide ((IntKind.wrap .i64 ((1 : Int) + (IntKind.wrap .i64 (Int.tmod p0.Window 12)))) < (IntKind.wrap .i64 (j29_8 -
        (IntKind.wrap .i64 (j29_7 + (1 : Int)))))))))) fun v174 => (cond v174 (some (.inr false)) (Option.bind (cond ((Int.tmod (IntKind.wrap .i64
        (IntKind.wrap .u8 (Int.tdiv v56 4))) 3) == (0 : Int)) ((Option.bind (m_rollback_Engine_Shown F o70_0 o70_1 o70_2) fun (o180_2, v180) =>
        (Option.bind (m_hindcastlaw26_Game_shown F p0 (IntKind.wrap .i64 (j29_7 + (1 : Int))) j29_8 j29_9) fun v185 => (Option.bind (m_state_Same F
        v180 v185) fun v186 => some ((!v186), o180_2.size, o180_2.places))))) (some (false, o70_2.size, o70_2.places))) fun (v188, g188_n45_0_5_f0,
        g188_n45_0_5_f1) => (cond v188 (some (.inr false)) (m_hindcastlaw26_RollbackTrue_L28 F p0 p1 n (IntKind.wrap .i64 (j29_7 + (1 : Int))) j29_8
        j29_9 (IntKind.wrap .i64 (j29_10 + (1 : Int))) o70_0.player o70_0.window o70_0.sure.Frame o70_0.sure.Seed o70_0.sure.Players o70_0.sure.Shots
        o70_0.sure.Score o70_0.own o70_1.first_ o70_1.l o70_1.last g188_n45_0_5_f0 g188_n45_0_5_f1)))))))) (Option.bind (m_rollback_Engine_C F o70_0
        o70_1 o70_2) fun v150 => (Option.bind (cond (v150 != (IntKind.wrap .u64 j29_7)) (some (true)) ((Option.bind (m_rollback_Engine_T F o70_0 o70_1
        o70_2) fun v156 => some ((v156 != (IntKind.wrap .u64 j29_8)))))) fun v160 => (Option.bind (cond v160 (some (true)) ((Option.bind
        (m_rollback_Engine_Known F o70_0 o70_1 o70_2) fun v163 => some ((v163 != (IntKind.wrap .u64 j29_9)))))) fun v167 => (Option.bind (cond v167
        (some (true)) (some ((decide ((IntKind.wrap .i64 ((1 : Int) + (IntKind.wrap .i64 (Int.tmod p0.Window 12)))) < (IntKind.wrap .i64 (j29_8 -
        j29_7))))))) fun v174 => (cond v174 (some (.inr false)) (Option.bind (cond ((Int.tmod (IntKind.wrap .i64 (IntKind.wrap .u8 (Int.tdiv v56 4)))
        3) == (0 : Int)) ((Option.bind (m_rollback_Engine_Shown F o70_0 o70_1 o70_2) fun (o180_2, v180) => (Option.bind (m_hindcastlaw26_Game_shown F
        p0 j29_7 j29_8 j29_9) fun v185 => (Option.bind (m_state_Same F v180 v185) fun v186 => some ((!v186), o180_2.size, o180_2.places))))) (some
        (false, o70_2.size, o70_2.places))) fun (v188, g188_n45_0_5_f0, g188_n45_0_5_f1) => (cond v188 (some (.inr false))
        (m_hindcastlaw26_RollbackTrue_L28 F p0 p1 n j29_7 j29_8 j29_9 (IntKind.wrap .i64 (j29_10 + (1 : Int))) o70_0.player o70_0.window
        o70_0.sure.Frame o70_0.sure.Seed o70_0.sure.Players o70_0.sure.Shots o70_0.sure.Score o70_0.own o70_1.first_ o70_1.l o70_1.last
        g188_n45_0_5_f0 g188_n45_0_5_f1)))))))))))))))))) (some (.inl (false, j29_7, j29_8, j29_9, j29_n45_0_f0, j29_n45_0_f1, j29_n45_0_f2_0,
        j29_n45_0_f2_1, j29_n45_0_f2_2, j29_n45_0_f2_3, j29_n45_0_f2_4, j29_n45_0_f3, j29_n45_0_4_f0, j29_n45_0_4_f1, j29_n45_0_4_f2, j29_n45_0_5_f0,
        j29_n45_0_5_f1))))

def m_hindcastlaw26_RollbackTrue (F : Nat) (p0 : T_hindcastlaw26_Game) (p1 : (List Int)) : Option (Bool) :=
  (Option.bind (cond (decide ((100 : Int) < (p0.Mine.length : Int))) (some (true)) (some ((decide ((100 : Int) < (p0.Theirs.length : Int)))))) fun v26
    => (Option.bind (cond v26 (some (true)) (some ((decide ((200 : Int) < (p1.length : Int)))))) fun v31 => (cond v31 (Option.bind
    (m_hindcastlaw26_works F) fun v32 => some v32) (Option.bind (m_state_Start F p0.Seed) fun v40 => (Option.bind (m_rollback_New F v40 (Int.tmod
    p0.Player 2) (IntKind.wrap .i64 ((1 : Int) + (IntKind.wrap .i64 (Int.tmod p0.Window 12))))) fun v45 => poE (some false) (fun v45s => (Option.bind
    (m_hindcastlaw26_RollbackTrue_L28 F p0 p1 F (0 : Int) (0 : Int) (0 : Int) (0 : Int) v45s.1.player v45s.1.window v45s.1.sure.Frame v45s.1.sure.Seed
    v45s.1.sure.Players v45s.1.sure.Shots v45s.1.sure.Score v45s.1.own v45s.2.1.first_ v45s.2.1.l v45s.2.1.last v45s.2.2.size v45s.2.2.places) (orE
    (fun (l29_4, l29_7, l29_8, l29_9, l29_n45_0_f0, l29_n45_0_f1, l29_n45_0_f2_0, l29_n45_0_f2_1, l29_n45_0_f2_2, l29_n45_0_f2_3, l29_n45_0_f2_4,
    l29_n45_0_f3, l29_n45_0_4_f0, l29_n45_0_4_f1, l29_n45_0_4_f2, l29_n45_0_5_f0, l29_n45_0_5_f1) => (Option.bind (m_rollback_Engine_State F
    (T_rollback_Engine.mk l29_n45_0_f0 l29_n45_0_f1 (T_api_State.mk l29_n45_0_f2_0 l29_n45_0_f2_1 l29_n45_0_f2_2 l29_n45_0_f2_3 l29_n45_0_f2_4)
    l29_n45_0_f3) (T_queue_Queue.mk l29_n45_0_4_f0 l29_n45_0_4_f1 l29_n45_0_4_f2) (T_ring_Ring.mk l29_n45_0_5_f0 l29_n45_0_5_f1)) fun v190 =>
    (Option.bind (m_state_Start F p0.Seed) fun v193 => (Option.bind (m_hindcastlaw26_Game_pairs F p0 l29_7) fun v196 => (Option.bind (m_fold_Fold F
    v193 v196) fun v197 => (Option.bind (m_state_Same F v190 v197) fun v198 => (Option.bind (cond v198 ((Option.bind (m_rollback_Engine_Shown F
    (T_rollback_Engine.mk l29_n45_0_f0 l29_n45_0_f1 (T_api_State.mk l29_n45_0_f2_0 l29_n45_0_f2_1 l29_n45_0_f2_2 l29_n45_0_f2_3 l29_n45_0_f2_4)
    l29_n45_0_f3) (T_queue_Queue.mk l29_n45_0_4_f0 l29_n45_0_4_f1 l29_n45_0_4_f2) (T_ring_Ring.mk l29_n45_0_5_f0 l29_n45_0_5_f1)) fun (o201_2, v201)
    => (Option.bind (m_hindcastlaw26_Game_shown F p0 l29_7 l29_8 l29_9) fun v206 => (Option.bind (m_state_Same F v201 v206) fun v207 => some (v207,
    o201_2.size, o201_2.places))))) (some (false, l29_n45_0_5_f0, l29_n45_0_5_f1))) fun (v208, g208_n45_0_5_f0, g208_n45_0_5_f1) => (Option.bind (cond
    v208 ((Option.bind (m_hindcastlaw26_works F) fun v210 => some (v210))) (some (false))) fun v211 => some v211)))))))) (fun r29 => some r29))))
    v45)))))

end Go.Proofs.YtkekgagekgadmaaDoor
