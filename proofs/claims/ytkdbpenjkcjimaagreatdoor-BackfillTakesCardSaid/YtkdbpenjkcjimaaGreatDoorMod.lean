/-
  Models of the functions of the chapter: what each computes, as a Lean function (none: it is not said). Printed by a program of this claim's own.
-/
import Derived.Test.YtkdbpenjkcjimaaGreatDoorEng5
namespace Go.Proofs.YtkdbpenjkcjimaaGreatDoor
open Go.Proofs.YtkdbpenjkcjimaaGreatDoor.Eng
set_option linter.unusedVariables false
set_option linter.unusedSimpArgs false

structure T_hindcastlaw28_Setup where
  Seed : Int
  Player : Int
  Window : Int
  Sure : Int
  Ahead : Int
  Told : Int
  From : Int
  Mine : (List Int)
  Theirs : (List Int)
theorem T_hindcastlaw28_Setup.eta (x : T_hindcastlaw28_Setup) : T_hindcastlaw28_Setup.mk x.Seed x.Player x.Window x.Sure x.Ahead x.Told x.From x.Mine x.Theirs = x := rfl

structure T_hindcastlaw28_Told where
  Player : Int
  First : Int
  Pairs : (List (Int × Int))
  Inputs : (List Int)
theorem T_hindcastlaw28_Told.eta (x : T_hindcastlaw28_Told) : T_hindcastlaw28_Told.mk x.Player x.First x.Pairs x.Inputs = x := rfl

structure T_api_Shot where
  X : Int
  Y : Int
  VX : Int
  VY : Int
  Owner : Int
  Life : Int
theorem T_api_Shot.eta (x : T_api_Shot) : T_api_Shot.mk x.X x.Y x.VX x.VY x.Owner x.Life = x := rfl

def c_T_api_Shot (x : T_api_Shot) : List Value := [.int .i32 x.X, .int .i32 x.Y, .int .i32 x.VX, .int .i32 x.VY, .int .u8 x.Owner, .int .u8 x.Life]
theorem c_T_api_Shot_len (x : T_api_Shot) : (c_T_api_Shot x).length = 6 := rfl

structure T_api_Player where
  X : Int
  Y : Int
  VX : Int
  VY : Int
  Health : Int
  Cool : Int
  Face : Int
theorem T_api_Player.eta (x : T_api_Player) : T_api_Player.mk x.X x.Y x.VX x.VY x.Health x.Cool x.Face = x := rfl

def c_T_api_Player (x : T_api_Player) : List Value := [.int .i32 x.X, .int .i32 x.Y, .int .i32 x.VX, .int .i32 x.VY, .int .u8 x.Health, .int .u8 x.Cool, .int .u8 x.Face]
theorem c_T_api_Player_len (x : T_api_Player) : (c_T_api_Player x).length = 7 := rfl

structure T_api_State where
  Frame : Int
  Seed : Int
  Players : (T_api_Player × T_api_Player)
  Shots : (List T_api_Shot)
  Score : (Int × Int)
theorem T_api_State.eta (x : T_api_State) : T_api_State.mk x.Frame x.Seed x.Players x.Shots x.Score = x := rfl

def gl_state_playerBounds : List Value := [.int .i32 (0 : Int), .int .i32 (61440 : Int), .int .i32 (0 : Int), .int .i32 (28672 : Int), .int .i32 ((-1024) : Int), .int .i32 (1024 : Int), .int .i32 ((-1024) : Int), .int .i32 (1024 : Int), .int .i32 (1 : Int), .int .i32 (100 : Int), .int .i32 (0 : Int), .int .i32 (30 : Int), .int .i32 (0 : Int), .int .i32 (3 : Int)]

def gl_state_shotBounds : List Value := [.int .i32 (0 : Int), .int .i32 (65024 : Int), .int .i32 (0 : Int), .int .i32 (32256 : Int), .int .i32 ((-2048) : Int), .int .i32 (2048 : Int), .int .i32 ((-2048) : Int), .int .i32 (2048 : Int), .int .i32 (0 : Int), .int .i32 (1 : Int), .int .i32 (1 : Int), .int .i32 (40 : Int)]

structure T_queue_Queue where
  first_ : Int
  l : (List Int)
  last : Int
theorem T_queue_Queue.eta (x : T_queue_Queue) : T_queue_Queue.mk x.first_ x.l x.last = x := rfl

structure T_ring_place where
  s : T_api_State
  is_ : Bool
theorem T_ring_place.eta (x : T_ring_place) : T_ring_place.mk x.s x.is_ = x := rfl

def cg_T_ring_place (p : T_ring_place × G) : List Value := [.int .u64 p.1.s.Frame, .int .u64 p.1.s.Seed, .int .i32 p.1.s.Players.1.X, .int .i32 p.1.s.Players.1.Y, .int .i32 p.1.s.Players.1.VX, .int .i32 p.1.s.Players.1.VY, .int .u8 p.1.s.Players.1.Health, .int .u8 p.1.s.Players.1.Cool, .int .u8 p.1.s.Players.1.Face, .int .i32 p.1.s.Players.2.X, .int .i32 p.1.s.Players.2.Y, .int .i32 p.1.s.Players.2.VX, .int .i32 p.1.s.Players.2.VY, .int .u8 p.1.s.Players.2.Health, .int .u8 p.1.s.Players.2.Cool, .int .u8 p.1.s.Players.2.Face, .slice p.2.1 p.2.2.1 p.2.2.2, .int .u16 p.1.s.Score.1, .int .u16 p.1.s.Score.2, .bool p.1.is_]
theorem cg_T_ring_place_len (p : T_ring_place × G) : (cg_T_ring_place p).length = 20 := rfl
def sh_T_ring_place (x : T_ring_place) : List T_api_Shot := x.s.Shots

structure T_ring_Ring where
  size : Int
  places : (Arr T_ring_place 14)
theorem T_ring_Ring.eta (x : T_ring_Ring) : T_ring_Ring.mk x.size x.places = x := rfl

structure T_rollback_Engine where
  player : Int
  window : Int
  sure : T_api_State
  own : (List Int)
theorem T_rollback_Engine.eta (x : T_rollback_Engine) : T_rollback_Engine.mk x.player x.window x.sure x.own = x := rfl

structure T_fold_History where
  from_ : Int
  count : Int
  most : Int
  ring : (Arr (Int × Int) 256)
theorem T_fold_History.eta (x : T_fold_History) : T_fold_History.mk x.from_ x.count x.most x.ring = x := rfl

structure T_api_Box where
  X : Int
  Y : Int
  W : Int
  H : Int
theorem T_api_Box.eta (x : T_api_Box) : T_api_Box.mk x.X x.Y x.W x.H = x := rfl

def c_T_api_Box (x : T_api_Box) : List Value := [.int .i32 x.X, .int .i32 x.Y, .int .i32 x.W, .int .i32 x.H]
theorem c_T_api_Box_len (x : T_api_Box) : (c_T_api_Box x).length = 4 := rfl

structure T_geom_row where
  from_ : Int
  to_ : Int
theorem T_geom_row.eta (x : T_geom_row) : T_geom_row.mk x.from_ x.to_ = x := rfl

def c_T_geom_row (x : T_geom_row) : List Value := [.int .i64 x.from_, .int .i64 x.to_]
theorem c_T_geom_row_len (x : T_geom_row) : (c_T_geom_row x).length = 2 := rfl

structure T_rng_Source where
  S : Int
theorem T_rng_Source.eta (x : T_rng_Source) : T_rng_Source.mk x.S = x := rfl

def c_T_rng_Source (x : T_rng_Source) : List Value := [.int .u64 x.S]
theorem c_T_rng_Source_len (x : T_rng_Source) : (c_T_rng_Source x).length = 1 := rfl

structure T_hindcastref24_Queue where
  Begin : Int
  First : Int
  L : (List Int)
theorem T_hindcastref24_Queue.eta (x : T_hindcastref24_Queue) : T_hindcastref24_Queue.mk x.Begin x.First x.L = x := rfl

structure T_hindcastref26_Engine where
  Player : Int
  Window : Int
  Sure : T_api_State
  Own : (List Int)
theorem T_hindcastref26_Engine.eta (x : T_hindcastref26_Engine) : T_hindcastref26_Engine.mk x.Player x.Window x.Sure x.Own = x := rfl

structure T_hindcastref11_History where
  From : Int
  Most : Int
  L : (List (Int × Int))
theorem T_hindcastref11_History.eta (x : T_hindcastref11_History) : T_hindcastref11_History.mk x.From x.Most x.L = x := rfl

@[reducible] def pl7 (x : T_api_Player) (t : List Value) : List Value := .int .i32 x.X :: .int .i32 x.Y :: .int .i32 x.VX :: .int .i32 x.VY :: .int .u8 x.Health :: .int .u8 x.Cool :: .int .u8 x.Face :: t
@[reducible] def pl14 (x : T_api_Player × T_api_Player) (t : List Value) : List Value := pl7 x.1 (pl7 x.2 t)
@[reducible] def agP (x : T_api_Player) : Value := .agg #[.int .i32 x.X, .int .i32 x.Y, .int .i32 x.VX, .int .i32 x.VY, .int .u8 x.Health, .int .u8 x.Cool, .int .u8 x.Face]
@[reducible] def agS (x : T_api_State) (a : Option Addr) (n c : Nat) : Value := .agg #[.int .u64 x.Frame, .int .u64 x.Seed, .int .i32 x.Players.1.X, .int .i32 x.Players.1.Y, .int .i32 x.Players.1.VX, .int .i32 x.Players.1.VY, .int .u8 x.Players.1.Health, .int .u8 x.Players.1.Cool, .int .u8 x.Players.1.Face, .int .i32 x.Players.2.X, .int .i32 x.Players.2.Y, .int .i32 x.Players.2.VX, .int .i32 x.Players.2.VY, .int .u8 x.Players.2.Health, .int .u8 x.Players.2.Cool, .int .u8 x.Players.2.Face, .slice a n c, .int .u16 x.Score.1, .int .u16 x.Score.2]
@[reducible] def st19 (x : T_api_State) (a : Option Addr) (n c : Nat) (t : List Value) : List Value := .int .u64 x.Frame :: .int .u64 x.Seed :: pl14 x.Players (.slice a n c :: .int .u16 x.Score.1 :: .int .u16 x.Score.2 :: t)
def m_state_Start_L8 (F : Nat) : Nat → Int → (T_api_Player × T_api_Player) → Option ((T_api_Player × T_api_Player))
  | 0, _, _ => none
  | n + 1, za, zb =>
      (cond (decide (za < (2 : Int))) (cond (za == (0 : Int)) (m_state_Start_L8 F n (IntKind.wrap .i64 (za + (1 : Int))) ((T_api_Player.mk
        (IntKind.wrap .i32 ((8192 : Int) + (IntKind.wrap .i32 ((IntKind.wrap .i32 za) * (45056 : Int))))) (14336 : Int) (0 : Int) (0 : Int) (100 :
        Int) (0 : Int) (IntKind.wrap .u8 za)), zb.2)) (cond (za == (1 : Int)) (m_state_Start_L8 F n (IntKind.wrap .i64 (za + (1 : Int)))
        (zb.1, (T_api_Player.mk (IntKind.wrap .i32 ((8192 : Int) + (IntKind.wrap .i32 ((IntKind.wrap .i32 za) * (45056 : Int))))) (14336 :
        Int) (0 : Int) (0 : Int) (100 : Int) (0 : Int) (IntKind.wrap .u8 za)))) none)) (some zb))

def m_state_Start (F : Nat) (p0 : Int) : Option (T_api_State) :=
  (Option.bind (m_state_Start_L8 F F (0 : Int) ((T_api_Player.mk (0 : Int) (0 : Int) (0 : Int) (0 : Int) (0 : Int) (0 : Int) (0 : Int)),
    (T_api_Player.mk (0 : Int) (0 : Int) (0 : Int) (0 : Int) (0 : Int) (0 : Int) (0 : Int)))) fun za => some (T_api_State.mk (0 : Int) p0
    za ([] : List T_api_Shot) ((0 : Int), (0 : Int))))

def m_state_ofPlayer (F : Nat) (p0 : T_api_Player) : Option ((List Int)) :=
  some ([p0.X, p0.Y, p0.VX, p0.VY, (IntKind.wrap .i32 p0.Health), (IntKind.wrap .i32 p0.Cool), (IntKind.wrap .i32 p0.Face)] : List Int)

def m_state_within_L6 (F : Nat) (p0 : (List Int)) (p1 : (List (Int × Int))) : Nat → Int → Option ((Bool) ⊕ (Bool))
  | 0, _ => none
  | n + 1, za =>
      (cond (decide (za < (p0.length : Int))) (Option.bind (getI p0 za) fun v13 => (Option.bind (getI p1 za) fun v17 => (Option.bind (cond
        (decide (v13 < v17.1)) (some (true)) ((Option.bind (getI p0 za) fun v24 => (Option.bind (getI p1 za) fun v28 => some ((decide (v28.2 <
        v24))))))) fun v32 => (cond v32 (some (.inr false)) (m_state_within_L6 F p0 p1 n (IntKind.wrap .i64 (za + (1 : Int)))))))) (some (.inl
        false)))

def m_state_within (F : Nat) (p0 : (List Int)) (p1 : (List (Int × Int))) : Option (Bool) :=
  (Option.bind (m_state_within_L6 F p0 p1 F (0 : Int)) (orE (fun za => some true) (fun r7 => some r7)))

def m_state_ofShot (F : Nat) (p0 : T_api_Shot) : Option ((List Int)) :=
  some ([p0.X, p0.Y, p0.VX, p0.VY, (IntKind.wrap .i32 p0.Owner), (IntKind.wrap .i32 p0.Life)] : List Int)

def m_state_Check_1 (F : Nat) (p0 : T_api_Shot) (p1 : (Arr (Int × Int) 6)) : Option (Bool) :=
  (Option.bind (m_state_ofShot F p0) fun v5 => (Option.bind (m_state_within F v5 p1.1) fun v7 => some (!v7)))

def m_slices_IndexFunc___api_Shot_api_Shot_f1_state_Check_1_L6 (F : Nat) (p0 : (List T_api_Shot)) (p1c0 : (Arr (Int × Int) 6)) : Nat → Int → Option ((Int) ⊕ (Int))
  | 0, _ => none
  | n + 1, za =>
      (cond (decide (za < (p0.length : Int))) (Option.bind (getI p0 za) fun v14 => (Option.bind (m_state_Check_1 F v14 p1c0) fun v16 => (cond v16
        (some (.inr za)) (m_slices_IndexFunc___api_Shot_api_Shot_f1_state_Check_1_L6 F p0 p1c0 n (IntKind.wrap .i64 (za + (1 : Int))))))) (some
        (.inl (0 : Int))))

def m_slices_IndexFunc___api_Shot_api_Shot_f1_state_Check_1 (F : Nat) (p0 : (List T_api_Shot)) (p1c0 : (Arr (Int × Int) 6)) : Option (Int) :=
  (Option.bind (m_slices_IndexFunc___api_Shot_api_Shot_f1_state_Check_1_L6 F p0 p1c0 F (0 : Int)) (orE (fun za => some (-1 : Int)) (fun r7 => some
    r7)))

def m_slices_ContainsFunc___api_Shot_api_Shot_f1_state_Check_1 (F : Nat) (p0 : (List T_api_Shot)) (p1c0 : (Arr (Int × Int) 6)) : Option (Bool) :=
  (Option.bind (m_slices_IndexFunc___api_Shot_api_Shot_f1_state_Check_1 F p0 p1c0) fun v7 => some (decide ((0 : Int) ≤ v7)))

def m_state_Check_L10 (F : Nat) (p0 : T_api_State) : Nat → Bool → Int → Option (Bool)
  | 0, _, _ => none
  | n + 1, zb, za =>
      (cond (decide (za < (2 : Int))) (cond (za == (0 : Int)) ((Option.bind (cond zb ((Option.bind (m_state_ofPlayer F p0.Players.1) fun
        v22 => (Option.bind (m_state_within F v22 ([((0 : Int), (61440 : Int)), ((0 : Int), (28672 : Int)), (((-1024) : Int), (1024 : Int)), (((-1024)
        : Int), (1024 : Int)), ((1 : Int), (100 : Int)), ((0 : Int), (30 : Int)), ((0 : Int), (3 : Int))] : List (Int × Int))) fun v24 => some
        (v24)))) (some (false))) fun v25 => m_state_Check_L10 F p0 n v25 (IntKind.wrap .i64 (za + (1 : Int))))) (cond (za == (1 : Int))
        ((Option.bind (cond zb ((Option.bind (m_state_ofPlayer F p0.Players.2) fun v22 => (Option.bind (m_state_within F v22 ([((0 : Int), (61440 :
        Int)), ((0 : Int), (28672 : Int)), (((-1024) : Int), (1024 : Int)), (((-1024) : Int), (1024 : Int)), ((1 : Int), (100 : Int)), ((0 : Int), (30
        : Int)), ((0 : Int), (3 : Int))] : List (Int × Int))) fun v24 => some (v24)))) (some (false))) fun v25 => m_state_Check_L10 F p0 n v25
        (IntKind.wrap .i64 (za + (1 : Int))))) none)) (some zb))

def m_state_Check (F : Nat) (p0 : T_api_State) : Option (Int) :=
  (Option.bind (m_state_Check_L10 F p0 F (decide ((p0.Shots.length : Int) ≤ (8 : Int))) (0 : Int)) fun za => (Option.bind (cond (!za) (some
    (true)) ((Option.bind (m_slices_ContainsFunc___api_Shot_api_Shot_f1_state_Check_1 F p0.Shots (⟨[((0 : Int), (65024 : Int)), ((0 : Int), (32256 :
    Int)), (((-2048) : Int), (2048 : Int)), (((-2048) : Int), (2048 : Int)), ((0 : Int), (1 : Int)), ((1 : Int), (40 : Int))], rfl⟩ : Arr (Int × Int)
    6)) fun v33 => some (v33)))) fun v34 => (cond v34 (some (4 : Int)) (some (0 : Int)))))

def m_slices_Clone___api_Shot_api_Shot (F : Nat) (p0 : (List T_api_Shot)) : Option ((List T_api_Shot)) :=
  (Option.bind (appI ([] : List T_api_Shot) p0) fun v7 => some v7)

def m_state_Copy (F : Nat) (p0 : T_api_State) : Option (T_api_State) :=
  (Option.bind (m_slices_Clone___api_Shot_api_Shot F p0.Shots) fun v5 => some (T_api_State.mk p0.Frame p0.Seed p0.Players v5 p0.Score))

def m_queue_New (F : Nat) (p0 : Int) : Option (T_queue_Queue) :=
  some (T_queue_Queue.mk p0 ([] : List Int) (0 : Int))

def m_ring_New (F : Nat) (p0 : Int) : Option ((Option T_ring_Ring)) :=
  (Option.bind (cond (decide (p0 < (1 : Int))) (some (true)) (some ((decide ((14 : Int) < p0))))) fun v8 => (cond v8 (some none) (some (some
    (T_ring_Ring.mk p0 (Arr.rep 14 (T_ring_place.mk (T_api_State.mk (0 : Int) (0 : Int) ((T_api_Player.mk (0 : Int) (0 : Int) (0 : Int) (0 : Int) (0 :
    Int) (0 : Int) (0 : Int)), (T_api_Player.mk (0 : Int) (0 : Int) (0 : Int) (0 : Int) (0 : Int) (0 : Int) (0 : Int))) ([] : List T_api_Shot) ((0 :
    Int), (0 : Int))) false)))))))

def m_ring_Ring_is (F : Nat) (p0 : T_ring_Ring) : Option (Bool) :=
  some (decide ((0 : Int) < p0.size))

def m_ring_told (F : Nat) (p0 : T_api_State) : Option (T_api_State) :=
  (Option.bind (mkI (p0.Shots.length : Int) (T_api_Shot.mk (0 : Int) (0 : Int) (0 : Int) (0 : Int) (0 : Int) (0 : Int))) fun v10 => some
    (T_api_State.mk p0.Frame p0.Seed p0.Players (copyL v10 p0.Shots) p0.Score))

def m_ring_Ring_Put (F : Nat) (p0 : T_ring_Ring) (p1 : T_api_State) : Option (T_ring_Ring × Bool) :=
  (Option.bind (m_ring_Ring_is F p0) fun v7 => (Option.bind (cond (!v7) (some (true)) ((Option.bind (m_state_Check F p1) fun v11 => some ((v11 != (0 :
    Int)))))) fun v13 => (cond v13 (some (p0, false)) (Option.bind (remI p1.Frame (IntKind.wrap .u64 p0.size)) fun v100012 => (Option.bind (getI
    p0.places.1 v100012) fun v100015 => (Option.bind (cond v100015.is_ (some ((decide (p1.Frame < v100015.s.Frame)))) (some (false))) fun v31 => (cond
    v31 (some (p0, false)) (Option.bind (m_ring_told F p1) fun v34 => some ((T_ring_Ring.mk p0.size (Arr.set p0.places v100012 (T_ring_place.mk v34
    true))), true)))))))))

def m_rollback_New (F : Nat) (p0 : T_api_State) (p1 : Int) (p2 : Int) : Option ((Option (T_rollback_Engine × T_queue_Queue × T_ring_Ring))) :=
  (Option.bind (m_state_Check F p0) fun v9 => (Option.bind (cond (v9 != (0 : Int)) (some (true)) (some ((decide ((9223372036854775808 : Int) <
    p0.Frame))))) fun v15 => (Option.bind (cond v15 (some (true)) (some ((decide ((1 : Int) < p1))))) fun v19 => (Option.bind (cond v19 (some (true))
    (some ((decide (p2 < (1 : Int)))))) fun v23 => (Option.bind (cond v23 (some (true)) (some ((decide ((12 : Int) < p2))))) fun v27 => (cond v27
    (some none) (Option.bind (m_state_Copy F p0) fun v31 => (Option.bind (m_queue_New F p0.Frame) fun v34 => (Option.bind (m_ring_New F (IntKind.wrap
    .i64 (p2 + (2 : Int)))) fun v37 => poE none (fun v37s => (Option.bind (m_ring_Ring_Put F v37s p0) fun (za, v45) => some (some
    ((T_rollback_Engine.mk p1 p2 v31 ([] : List Int)), v34, za)))) v37)))))))))

def m_fold_New (F : Nat) (p0 : Int) (p1 : Int) : Option ((Option T_fold_History)) :=
  (Option.bind (cond (decide (p1 < (1 : Int))) (some (true)) (some ((decide ((256 : Int) < p1))))) fun v10 => (cond v10 (some none) (some (some
    (T_fold_History.mk p0 p0 (IntKind.wrap .u64 p1) (Arr.rep 256 ((0 : Int), (0 : Int))))))))

def m_rollback_Engine_is (F : Nat) (p0 : T_rollback_Engine) (p0_4 : T_queue_Queue) (p0_5 : T_ring_Ring) : Option (Bool) :=
  some true

def m_input_Legal (F : Nat) (p0 : Int) : Option (Bool) :=
  some (decide (p0 < (64 : Int)))

def m_rollback_Engine_Local (F : Nat) (p0 : T_rollback_Engine) (p0_4 : T_queue_Queue) (p0_5 : T_ring_Ring) (p1 : Int) : Option (T_rollback_Engine × Int) :=
  (Option.bind (m_rollback_Engine_is F p0 p0_4 p0_5) fun v7 => (cond (!v7) (some (p0, (1 : Int))) (Option.bind (m_input_Legal F p1) fun v11 => (cond
    (!v11) (some (p0, (2 : Int))) (cond (decide (p0.window ≤ (p0.own.length : Int))) (some (p0, (7 : Int))) (Option.bind (appI p0.own ([p1] : List
    Int)) fun v31 => some ((T_rollback_Engine.mk p0.player p0.window p0.sure v31), (0 : Int))))))))

def m_queue_Queue_Known (F : Nat) (p0 : T_queue_Queue) : Option (Int) :=
  some (IntKind.wrap .u64 (p0.first_ + (IntKind.wrap .u64 (p0.l.length : Int))))

def m_queue_Queue_from (F : Nat) (p0 : T_queue_Queue) (p1 : Int) : Option ((List Int)) :=
  (Option.bind (cond (decide (p1 < p0.first_)) (some (true)) ((Option.bind (m_queue_Queue_Known F p0) fun v18 => some ((decide (v18 ≤ p1)))))) fun v20
    => (cond v20 (some ([] : List Int)) (Option.bind (cut3I p0.l (IntKind.wrap .u64 (p1 - p0.first_)) (p0.l.length : Int) (p0.l.length : Int)) fun v41
    => some v41)))

def m_queue_Queue_At (F : Nat) (p0 : T_queue_Queue) (p1 : Int) : Option (Int × Bool) :=
  (Option.bind (m_queue_Queue_from F p0 p1) fun v9 => (cond (decide ((0 : Int) < (v9.length : Int))) (Option.bind (getI v9 (0 : Int)) fun v14 => some
    (v14, true)) (some ((0 : Int), false))))

def m_queue_Queue_Guess (F : Nat) (p0 : T_queue_Queue) (p1 : Int) : Option (Int) :=
  (Option.bind (m_queue_Queue_At F p0 p1) fun (za, zb) => (Option.bind (cond zb (some (true)) (some (false))) fun v17 => (cond v17 (some
    za) (some p0.last))))

def m_queue_Queue_Add (F : Nat) (p0 : T_queue_Queue) (p1 : Int) (p2 : Int) : Option (T_queue_Queue × Int) :=
  (Option.bind (m_input_Legal F p2) fun v14 => (cond (!v14) (some (p0, (2 : Int))) (cond (decide (p1 < p0.first_)) (some (p0, (0 : Int))) (Option.bind
    (m_queue_Queue_At F p0 p1) fun (zb, za) => (Option.bind (cond za (some ((zb != p2))) (some (false))) fun v35 => (cond v35 (some (p0,
    (14 : Int))) (cond za (some (p0, (0 : Int))) (Option.bind (m_queue_Queue_Known F p0) fun v41 => (Option.bind (cond (decide (v41 < p1)) (some
    (true)) (some ((p1 == (18446744073709551615 : Int))))) fun v46 => (cond v46 (some (p0, (11 : Int))) (cond (decide ((24 : Int) ≤ (p0.l.length :
    Int))) (some (p0, (7 : Int))) (Option.bind (appI p0.l ([p2] : List Int)) fun v62 => some ((T_queue_Queue.mk p0.first_ v62 p2), (0 :
    Int))))))))))))))

def m_ring_Ring_Cut_L16 (F : Nat) (p0 : T_ring_Ring) (p1 : Int) : Nat → Int → Int → (Arr T_ring_place 14) → Option (Int × (Arr T_ring_place 14))
  | 0, _, _, _ => none
  | n + 1, zc, zb, za =>
      (cond (decide (zb < (14 : Int))) (Option.bind (getI p0.places.1 zb) fun v18 => (Option.bind (cond v18.is_ (some ((decide (p1 <
        v18.s.Frame)))) (some (false))) fun v27 => (cond v27 (Option.bind (getI za.1 zb) fun v33 => m_ring_Ring_Cut_L16 F p0 p1 n
        (IntKind.wrap .i64 (zc + (1 : Int))) (IntKind.wrap .i64 (zb + (1 : Int))) (Arr.set za zb (T_ring_place.mk (T_api_State.mk (0
        : Int) (0 : Int) ((T_api_Player.mk (0 : Int) (0 : Int) (0 : Int) (0 : Int) (0 : Int) (0 : Int) (0 : Int)), (T_api_Player.mk (0 : Int) (0 :
        Int) (0 : Int) (0 : Int) (0 : Int) (0 : Int) (0 : Int))) ([] : List T_api_Shot) ((0 : Int), (0 : Int))) false))) (m_ring_Ring_Cut_L16 F p0 p1
        n zc (IntKind.wrap .i64 (zb + (1 : Int))) za)))) (some (zc, za)))

def m_ring_Ring_Cut (F : Nat) (p0 : T_ring_Ring) (p1 : Int) : Option (T_ring_Ring × Int) :=
  (Option.bind (m_ring_Ring_is F p0) fun v9 => (cond (!v9) (some (p0, (0 : Int))) (Option.bind (m_ring_Ring_Cut_L16 F p0 p1 F (0 : Int) (0 : Int)
    p0.places) fun (zb, za) => some ((T_ring_Ring.mk p0.size za), zb))))

def m_rollback_Engine_Remote (F : Nat) (p0 : T_rollback_Engine) (p0_4 : T_queue_Queue) (p0_5 : T_ring_Ring) (p1 : Int) (p2 : Int) : Option (T_queue_Queue × T_ring_Ring × Int) :=
  (Option.bind (m_rollback_Engine_is F p0 p0_4 p0_5) fun v11 => (cond (!v11) (some (p0_4, p0_5, (1 : Int))) (Option.bind (m_queue_Queue_Known F p0_4)
    fun v17 => (Option.bind (m_queue_Queue_Guess F p0_4 p1) fun v23 => (Option.bind (m_queue_Queue_Add F p0_4 p1 p2) fun (zc, v30) => (Option.bind
    (m_queue_Queue_Known F zc) fun v35 => (Option.bind (cond (decide (v17 < v35)) (some ((v23 != p2))) (some (false))) fun v42 => (Option.bind
    ((cond v42 (Option.bind (m_ring_Ring_Cut F p0_5 p1) fun (zd, v48) => some (zd.size, zd.places)) (some (p0_5.size, p0_5.places)))) fun
    (za, zb) => some (zc, (T_ring_Ring.mk za zb), v30)))))))))

def m_rollback_Engine_pair (F : Nat) (p0 : T_rollback_Engine) (p0_4 : T_queue_Queue) (p0_5 : T_ring_Ring) (p1 : Int) : Option ((Int × Int)) :=
  (Option.bind (getI p0.own (IntKind.wrap .u64 (p1 - p0.sure.Frame))) fun v20 => (cond (p0.player == (0 : Int)) ((Option.bind (m_queue_Queue_Guess F
    p0_4 p1) fun v33 => (cond ((IntKind.wrap .u8 ((1 : Int) - p0.player)) == (0 : Int)) (some (v33, (0 : Int))) (cond ((IntKind.wrap .u8 ((1 : Int) -
    p0.player)) == (1 : Int)) (some (v20, v33)) none)))) (cond (p0.player == (1 : Int)) ((Option.bind (m_queue_Queue_Guess F p0_4 p1) fun v33 => (cond
    ((IntKind.wrap .u8 ((1 : Int) - p0.player)) == (0 : Int)) (some (v33, v20)) (cond ((IntKind.wrap .u8 ((1 : Int) - p0.player)) == (1 : Int)) (some
    ((0 : Int), v33)) none)))) none)))

def m_rollback_Engine_Next (F : Nat) (p0 : T_rollback_Engine) (p0_4 : T_queue_Queue) (p0_5 : T_ring_Ring) : Option ((Int × Int) × Bool) :=
  (Option.bind (m_rollback_Engine_is F p0 p0_4 p0_5) fun v5 => (Option.bind (cond (!v5) (some (true)) (some (((p0.own.length : Int) == (0 : Int)))))
    fun v14 => (Option.bind (cond v14 (some (true)) ((Option.bind (m_queue_Queue_Known F p0_4) fun v20 => some ((decide (v20 ≤ p0.sure.Frame)))))) fun
    v27 => (cond v27 (some (((0 : Int), (0 : Int)), false)) (Option.bind (m_rollback_Engine_pair F p0 p0_4 p0_5 p0.sure.Frame) fun v35 => some (v35,
    true))))))

def m_input_way (F : Nat) (p0 : Int) (p1 : Int) (p2 : Int) : Option (Int) :=
  (cond ((bits .and .u8 p0 (bits .or .u8 p1 p2)) == p1) (some (-1 : Int)) (cond ((bits .and .u8 p0 (bits .or .u8 p1 p2)) == p2) (some (1 : Int)) (some
    (0 : Int))))

def m_input_Dir (F : Nat) (p0 : Int) : Option (Int × Int) :=
  (Option.bind (m_input_way F p0 (1 : Int) (2 : Int)) fun v5 => (Option.bind (m_input_way F p0 (4 : Int) (8 : Int)) fun v7 => some (v5, v7)))

def m_step_turn (F : Nat) (p0 : Int) (p1 : Int) (p2 : Int) : Option (Int) :=
  (cond (decide ((0 : Int) < p1)) (some (0 : Int)) (cond (decide (p1 < (0 : Int))) (some (1 : Int)) (cond (decide (p2 < (0 : Int))) (some (2 : Int))
    (cond (decide ((0 : Int) < p2)) (some (3 : Int)) (some p0)))))

def m_input_Dash (F : Nat) (p0 : Int) : Option (Bool) :=
  some ((bits .and .u8 p0 (32 : Int)) != (0 : Int))

def m_step_steer_1 (F : Nat) (p0 : Int) (p1 : Int) (p2 : Bool) : Option (Int) :=
  (Option.bind ((cond (p1 != (0 : Int)) (some (IntKind.wrap .i32 (p0 + (IntKind.wrap .i32 ((64 : Int) * p1))))) (Option.bind (cond (decide ((-8 : Int)
    < (IntKind.wrap .i32 (p0 - (IntKind.wrap .i32 (Int.tdiv p0 8)))))) (some ((decide ((IntKind.wrap .i32 (p0 - (IntKind.wrap .i32 (Int.tdiv p0 8))))
    < (8 : Int))))) (some (false))) fun v21 => (cond v21 (some (0 : Int)) (some (IntKind.wrap .i32 (p0 - (IntKind.wrap .i32 (Int.tdiv p0 8)))))))))
    fun za => (Option.bind ((cond p2 (some (IntKind.wrap .i32 (za * (2 : Int)))) (some za))) fun zb => some (max (-1024 : Int) (min zb
    (1024 : Int)))))

def m_step_steer (F : Nat) (p0 : T_api_Player) (p1 : Int) : Option (T_api_Player) :=
  (Option.bind (m_input_Dir F p1) fun (za, zb) => (Option.bind (m_step_turn F p0.Face za zb) fun v25 => (Option.bind (m_input_Dash F p1)
    fun v28 => (Option.bind (cond v28 (some (((IntKind.wrap .u8 (p0.Cool - (min p0.Cool (1 : Int)))) == (0 : Int)))) (some (false))) fun v33 =>
    (Option.bind (m_step_steer_1 F p0.VX za v33) fun v39 => (Option.bind (m_step_steer_1 F p0.VY zb v33) fun v44 => (Option.bind ((cond v33
    (some (T_api_Player.mk p0.X p0.Y v39 v44 p0.Health (30 : Int) v25)) (some (T_api_Player.mk p0.X p0.Y v39 v44 p0.Health (IntKind.wrap .u8 (p0.Cool
    - (min p0.Cool (1 : Int)))) v25)))) fun zc => some zc)))))))

def m_input_Fire (F : Nat) (p0 : Int) : Option (Bool) :=
  some ((bits .and .u8 p0 (16 : Int)) != (0 : Int))

def m_step_shoot (F : Nat) (p0 : T_api_Player) (p1 : Int) : Option (T_api_Shot) :=
  (Option.bind ((cond (p0.Face == (0 : Int)) (some (T_api_Shot.mk (IntKind.wrap .i32 (p0.X + (1792 : Int))) (IntKind.wrap .i32 (p0.Y + (1792 : Int)))
    (2048 : Int) (0 : Int) p1 (40 : Int))) (cond (p0.Face == (1 : Int)) (some (T_api_Shot.mk (IntKind.wrap .i32 (p0.X + (1792 : Int))) (IntKind.wrap
    .i32 (p0.Y + (1792 : Int))) (-2048 : Int) (0 : Int) p1 (40 : Int))) (cond (p0.Face == (2 : Int)) (some (T_api_Shot.mk (IntKind.wrap .i32 (p0.X +
    (1792 : Int))) (IntKind.wrap .i32 (p0.Y + (1792 : Int))) (0 : Int) (-2048 : Int) p1 (40 : Int))) (some (T_api_Shot.mk (IntKind.wrap .i32 (p0.X +
    (1792 : Int))) (IntKind.wrap .i32 (p0.Y + (1792 : Int))) (0 : Int) (2048 : Int) p1 (40 : Int))))))) fun za => some za)

def m_geom_Move (F : Nat) (p0 : Int) (p1 : Int) (p2 : Int) (p3 : Int) : Option (Int × Int) :=
  (Option.bind (cond (decide (p3 < p2)) (some (true)) (some ((decide ((IntKind.wrap .i64 ((IntKind.wrap .i64 p0) + (IntKind.wrap .i64 p1))) <
    (IntKind.wrap .i64 p2)))))) fun v24 => (cond v24 (some (p2, (0 : Int))) (cond (decide ((IntKind.wrap .i64 p3) < (IntKind.wrap .i64 ((IntKind.wrap
    .i64 p0) + (IntKind.wrap .i64 p1))))) (some (p3, (0 : Int))) (some ((IntKind.wrap .i32 (IntKind.wrap .i64 ((IntKind.wrap .i64 p0) + (IntKind.wrap
    .i64 p1)))), p1)))))

def m_step_moved (F : Nat) (p0 : T_api_Player) : Option (T_api_Player) :=
  (Option.bind (m_geom_Move F p0.X p0.VX (0 : Int) (61440 : Int)) fun (zc, zd) => (Option.bind (m_geom_Move F p0.Y p0.VY (0 : Int) (28672 : Int))
    fun (za, zb) => some (T_api_Player.mk zc za zd zb p0.Health p0.Cool p0.Face)))

def m_step_box (F : Nat) (p0 : T_api_Player) : Option (T_api_Box) :=
  some (T_api_Box.mk p0.X p0.Y (4096 : Int) (4096 : Int))

def m_geom_of (F : Nat) (p0 : Int) (p1 : Int) : Option (T_geom_row) :=
  some (T_geom_row.mk (IntKind.wrap .i64 p0) (IntKind.wrap .i64 ((IntKind.wrap .i64 p0) + (IntKind.wrap .i64 (max (0 : Int) p1)))))

def m_geom_rows (F : Nat) (p0 : T_api_Box) : Option (T_geom_row × T_geom_row) :=
  (Option.bind (m_geom_of F p0.X p0.W) fun v8 => (Option.bind (m_geom_of F p0.Y p0.H) fun v13 => some (v8, v13)))

def m_geom_row_over (F : Nat) (p0 : T_geom_row) (p1 : T_geom_row) : Option (Bool) :=
  some (decide ((max p0.from_ p1.from_) < (min p0.to_ p1.to_)))

def m_geom_both_f2_geom_row_over (F : Nat) (p0 : T_api_Box) (p1 : T_api_Box) : Option (Bool) :=
  (Option.bind (m_geom_rows F p0) fun (za, zb) => (Option.bind (m_geom_rows F p1) fun (zc, zd) => (Option.bind (m_geom_row_over F za
    zc) fun v24 => (Option.bind (cond v24 ((Option.bind (m_geom_row_over F zb zd) fun v29 => some (v29))) (some (false))) fun v30 => some
    v30))))

def m_geom_Over (F : Nat) (p0 : T_api_Box) (p1 : T_api_Box) : Option (Bool) :=
  (Option.bind (m_geom_both_f2_geom_row_over F p0 p1) fun v7 => some v7)

def m_step_stopped (F : Nat) (p0 : T_api_Player) : Option (T_api_Player) :=
  some (T_api_Player.mk p0.X p0.Y (0 : Int) (0 : Int) p0.Health p0.Cool p0.Face)

def m_geom_row_inside (F : Nat) (p0 : T_geom_row) (p1 : T_geom_row) : Option (Bool) :=
  (Option.bind (cond (decide (p0.from_ < p0.to_)) (some ((decide (p1.from_ ≤ p0.from_)))) (some (false))) fun v16 => (Option.bind (cond v16 (some
    ((decide (p0.to_ ≤ p1.to_)))) (some (false))) fun v23 => some v23))

def m_geom_both_f2_geom_row_inside (F : Nat) (p0 : T_api_Box) (p1 : T_api_Box) : Option (Bool) :=
  (Option.bind (m_geom_rows F p0) fun (za, zb) => (Option.bind (m_geom_rows F p1) fun (zc, zd) => (Option.bind (m_geom_row_inside F za
    zc) fun v24 => (Option.bind (cond v24 ((Option.bind (m_geom_row_inside F zb zd) fun v29 => some (v29))) (some (false))) fun v30 => some
    v30))))

def m_geom_Inside (F : Nat) (p0 : T_api_Box) (p1 : T_api_Box) : Option (Bool) :=
  (Option.bind (m_geom_both_f2_geom_row_inside F p0 p1) fun v7 => some v7)

def m_step_fly_L8 (F : Nat) (p0 : T_api_State) : Nat → (List T_api_Shot) → Int → (T_api_Player × T_api_Player) → (Int × Int) → Option ((List T_api_Shot) × (T_api_Player × T_api_Player) × (Int × Int))
  | 0, _, _, _, _ => none
  | n + 1, zd, zc, za, zb =>
      (cond (decide (zc < (p0.Shots.length : Int))) (Option.bind (getI p0.Shots zc) fun v16 => (cond ((IntKind.wrap .u8 ((1 : Int) - v16.Owner))
        == (0 : Int)) ((Option.bind (m_geom_Inside F (T_api_Box.mk (IntKind.wrap .i32 (v16.X + v16.VX)) (IntKind.wrap .i32 (v16.Y + v16.VY)) (512 :
        Int) (512 : Int)) (T_api_Box.mk (0 : Int) (0 : Int) (65536 : Int) (32768 : Int))) fun v49 => (cond (!v49) (m_step_fly_L8 F p0 n zd
        (IntKind.wrap .i64 (zc + (1 : Int))) za zb) (Option.bind (m_step_box F za.1) fun v56 => (Option.bind (m_geom_Over F
        (T_api_Box.mk (IntKind.wrap .i32 (v16.X + v16.VX)) (IntKind.wrap .i32 (v16.Y + v16.VY)) (512 : Int) (512 : Int)) v56) fun v57 => (cond v57
        (cond (v16.Owner == (0 : Int)) (m_step_fly_L8 F p0 n zd (IntKind.wrap .i64 (zc + (1 : Int))) ((T_api_Player.mk za.1.X za.1.Y
        za.1.VX za.1.VY (IntKind.wrap .u8 (za.1.Health - (min za.1.Health (10 : Int)))) za.1.Cool za.1.Face),
        za.2) ((IntKind.wrap .u16 ((min zb.1 (65534 : Int)) + (1 : Int))), zb.2)) (cond (v16.Owner == (1 : Int)) (m_step_fly_L8 F p0
        n zd (IntKind.wrap .i64 (zc + (1 : Int))) ((T_api_Player.mk za.1.X za.1.Y za.1.VX za.1.VY (IntKind.wrap .u8
        (za.1.Health - (min za.1.Health (10 : Int)))) za.1.Cool za.1.Face), za.2) (zb.1, (IntKind.wrap .u16 ((min
        zb.2 (65534 : Int)) + (1 : Int))))) none)) (cond (decide ((0 : Int) < (IntKind.wrap .u8 (v16.Life - (1 : Int))))) (Option.bind (appI
        zd ([(T_api_Shot.mk (IntKind.wrap .i32 (v16.X + v16.VX)) (IntKind.wrap .i32 (v16.Y + v16.VY)) v16.VX v16.VY v16.Owner (IntKind.wrap .u8
        (v16.Life - (1 : Int))))] : List T_api_Shot)) fun v92 => m_step_fly_L8 F p0 n v92 (IntKind.wrap .i64 (zc + (1 : Int))) za zb)
        (m_step_fly_L8 F p0 n zd (IntKind.wrap .i64 (zc + (1 : Int))) za zb)))))))) (cond ((IntKind.wrap .u8 ((1 : Int) - v16.Owner))
        == (1 : Int)) ((Option.bind (m_geom_Inside F (T_api_Box.mk (IntKind.wrap .i32 (v16.X + v16.VX)) (IntKind.wrap .i32 (v16.Y + v16.VY)) (512 :
        Int) (512 : Int)) (T_api_Box.mk (0 : Int) (0 : Int) (65536 : Int) (32768 : Int))) fun v49 => (cond (!v49) (m_step_fly_L8 F p0 n zd
        (IntKind.wrap .i64 (zc + (1 : Int))) za zb) (Option.bind (m_step_box F za.2) fun v56 => (Option.bind (m_geom_Over F
        (T_api_Box.mk (IntKind.wrap .i32 (v16.X + v16.VX)) (IntKind.wrap .i32 (v16.Y + v16.VY)) (512 : Int) (512 : Int)) v56) fun v57 => (cond v57
        (cond (v16.Owner == (0 : Int)) (m_step_fly_L8 F p0 n zd (IntKind.wrap .i64 (zc + (1 : Int))) (za.1, (T_api_Player.mk za.2.X
        za.2.Y za.2.VX za.2.VY (IntKind.wrap .u8 (za.2.Health - (min za.2.Health (10 : Int)))) za.2.Cool
        za.2.Face)) ((IntKind.wrap .u16 ((min zb.1 (65534 : Int)) + (1 : Int))), zb.2)) (cond (v16.Owner == (1 : Int))
        (m_step_fly_L8 F p0 n zd (IntKind.wrap .i64 (zc + (1 : Int))) (za.1, (T_api_Player.mk za.2.X za.2.Y za.2.VX
        za.2.VY (IntKind.wrap .u8 (za.2.Health - (min za.2.Health (10 : Int)))) za.2.Cool za.2.Face)) (zb.1,
        (IntKind.wrap .u16 ((min zb.2 (65534 : Int)) + (1 : Int))))) none)) (cond (decide ((0 : Int) < (IntKind.wrap .u8 (v16.Life - (1 :
        Int))))) (Option.bind (appI zd ([(T_api_Shot.mk (IntKind.wrap .i32 (v16.X + v16.VX)) (IntKind.wrap .i32 (v16.Y + v16.VY)) v16.VX v16.VY
        v16.Owner (IntKind.wrap .u8 (v16.Life - (1 : Int))))] : List T_api_Shot)) fun v92 => m_step_fly_L8 F p0 n v92 (IntKind.wrap .i64 (zc + (1 :
        Int))) za zb) (m_step_fly_L8 F p0 n zd (IntKind.wrap .i64 (zc + (1 : Int))) za zb)))))))) none))) (some (zd,
        za, zb)))

def m_step_fly (F : Nat) (p0 : T_api_State) : Option (T_api_State) :=
  (Option.bind (m_step_fly_L8 F p0 F ([] : List T_api_Shot) (0 : Int) p0.Players p0.Score) fun (zc, za, zb) => some (T_api_State.mk
    p0.Frame p0.Seed za zc zb))

def m_rng_Source_Skip (F : Nat) (p0 : T_rng_Source) (p1 : Int) : Option (T_rng_Source) :=
  some (T_rng_Source.mk (IntKind.wrap .u64 (p0.S + (IntKind.wrap .u64 (p1 * (11400714819323198485 : Int))))))

def m_rng_Mix (F : Nat) (p0 : Int) : Option (Int) :=
  some (bits .xor .u64 (IntKind.wrap .u64 ((bits .xor .u64 (IntKind.wrap .u64 ((bits .xor .u64 p0 (p0 / 2 ^ (min 30 (IntKind.bits .u64)))) *
    (13787848793156543929 : Int))) ((IntKind.wrap .u64 ((bits .xor .u64 p0 (p0 / 2 ^ (min 30 (IntKind.bits .u64)))) * (13787848793156543929 : Int))) /
    2 ^ (min 27 (IntKind.bits .u64)))) * (10723151780598845931 : Int))) ((IntKind.wrap .u64 ((bits .xor .u64 (IntKind.wrap .u64 ((bits .xor .u64 p0
    (p0 / 2 ^ (min 30 (IntKind.bits .u64)))) * (13787848793156543929 : Int))) ((IntKind.wrap .u64 ((bits .xor .u64 p0 (p0 / 2 ^ (min 30 (IntKind.bits
    .u64)))) * (13787848793156543929 : Int))) / 2 ^ (min 27 (IntKind.bits .u64)))) * (10723151780598845931 : Int))) / 2 ^ (min 31 (IntKind.bits
    .u64))))

def m_rng_Source_Next (F : Nat) (p0 : T_rng_Source) : Option (Int × T_rng_Source) :=
  (Option.bind (m_rng_Source_Skip F p0 (1 : Int)) fun v5 => (Option.bind (m_rng_Mix F v5.S) fun v8 => some (v8, v5)))

def m_rng_Source_Below (F : Nat) (p0 : T_rng_Source) (p1 : Int) : Option (Int × T_rng_Source) :=
  (cond (decide (p1 < (1 : Int))) (some ((0 : Int), p0)) (Option.bind (m_rng_Source_Next F p0) fun (za, zb) => some ((IntKind.wrap .i64
    ((IntKind.wrap .u64 ((za / 2 ^ (min 32 (IntKind.bits .u64))) * (IntKind.wrap .u64 (min p1 (2147483648 : Int))))) / 2 ^ (min 32 (IntKind.bits
    .u64)))), zb)))

def m_step_revive (F : Nat) (p0 : T_api_State) (p1 : Int) : Option (T_api_State) :=
  (cond (p1 == (0 : Int)) ((Option.bind (m_step_stopped F p0.Players.1) fun v15 => (Option.bind (m_rng_Source_Below F (T_rng_Source.mk p0.Seed) (61441
    : Int)) fun (zb, ze) => (Option.bind (m_rng_Source_Below F ze (28673 : Int)) fun (zc, zd) => (Option.bind (m_step_box F
    (T_api_Player.mk (IntKind.wrap .i32 zb) (IntKind.wrap .i32 zc) v15.VX v15.VY (100 : Int) v15.Cool v15.Face)) fun v45 => (cond ((IntKind.wrap
    .i64 ((1 : Int) - p1)) == (0 : Int)) ((Option.bind (m_step_box F p0.Players.1) fun v53 => (Option.bind (m_geom_Over F v45 v53) fun v54 =>
    (Option.bind ((cond (!v54) (some (T_api_Player.mk (IntKind.wrap .i32 zb) (IntKind.wrap .i32 zc) v15.VX v15.VY (100 : Int) v15.Cool
    v15.Face)) (some (T_api_Player.mk v15.X v15.Y v15.VX v15.VY (100 : Int) v15.Cool v15.Face)))) fun za => some (T_api_State.mk p0.Frame zd.S
    (za, p0.Players.2) p0.Shots p0.Score))))) (cond ((IntKind.wrap .i64 ((1 : Int) - p1)) == (1 : Int)) ((Option.bind (m_step_box F p0.Players.2)
    fun v53 => (Option.bind (m_geom_Over F v45 v53) fun v54 => (Option.bind ((cond (!v54) (some (T_api_Player.mk (IntKind.wrap .i32 zb)
    (IntKind.wrap .i32 zc) v15.VX v15.VY (100 : Int) v15.Cool v15.Face)) (some (T_api_Player.mk v15.X v15.Y v15.VX v15.VY (100 : Int) v15.Cool
    v15.Face)))) fun za => some (T_api_State.mk p0.Frame zd.S (za, p0.Players.2) p0.Shots p0.Score))))) none))))))) (cond (p1 == (1 : Int))
    ((Option.bind (m_step_stopped F p0.Players.2) fun v15 => (Option.bind (m_rng_Source_Below F (T_rng_Source.mk p0.Seed) (61441 : Int)) fun (zb,
    ze) => (Option.bind (m_rng_Source_Below F ze (28673 : Int)) fun (zc, zd) => (Option.bind (m_step_box F (T_api_Player.mk (IntKind.wrap
    .i32 zb) (IntKind.wrap .i32 zc) v15.VX v15.VY (100 : Int) v15.Cool v15.Face)) fun v45 => (cond ((IntKind.wrap .i64 ((1 : Int) - p1)) == (0 :
    Int)) ((Option.bind (m_step_box F p0.Players.1) fun v53 => (Option.bind (m_geom_Over F v45 v53) fun v54 => (Option.bind ((cond (!v54) (some
    (T_api_Player.mk (IntKind.wrap .i32 zb) (IntKind.wrap .i32 zc) v15.VX v15.VY (100 : Int) v15.Cool v15.Face)) (some (T_api_Player.mk v15.X
    v15.Y v15.VX v15.VY (100 : Int) v15.Cool v15.Face)))) fun za => some (T_api_State.mk p0.Frame zd.S (p0.Players.1, za) p0.Shots
    p0.Score))))) (cond ((IntKind.wrap .i64 ((1 : Int) - p1)) == (1 : Int)) ((Option.bind (m_step_box F p0.Players.2) fun v53 => (Option.bind
    (m_geom_Over F v45 v53) fun v54 => (Option.bind ((cond (!v54) (some (T_api_Player.mk (IntKind.wrap .i32 zb) (IntKind.wrap .i32 zc) v15.VX
    v15.VY (100 : Int) v15.Cool v15.Face)) (some (T_api_Player.mk v15.X v15.Y v15.VX v15.VY (100 : Int) v15.Cool v15.Face)))) fun za => some
    (T_api_State.mk p0.Frame zd.S (p0.Players.1, za) p0.Shots p0.Score))))) none))))))) none))

def m_step_Step_L16 (F : Nat) (p1 : (Int × Int)) : Nat → Int → (T_api_Player × T_api_Player) → Option ((T_api_Player × T_api_Player))
  | 0, _, _ => none
  | n + 1, zb, za =>
      (cond (decide (zb < (2 : Int))) (cond (zb == (0 : Int)) ((Option.bind (m_step_steer F za.1 p1.1) fun v40 => m_step_Step_L16 F p1
        n (IntKind.wrap .i64 (zb + (1 : Int))) (v40, za.2))) (cond (zb == (1 : Int)) ((Option.bind (m_step_steer F za.2 p1.2)
        fun v40 => m_step_Step_L16 F p1 n (IntKind.wrap .i64 (zb + (1 : Int))) (za.1, v40))) none)) (some za))

def m_step_Step_L33 (F : Nat) (p1 : (Int × Int)) : Nat → Int → (T_api_Player × T_api_Player) → (List T_api_Shot) → Option ((T_api_Player × T_api_Player) × (List T_api_Shot))
  | 0, _, _, _ => none
  | n + 1, zc, za, zb =>
      (cond (decide (zc < (2 : Int))) (cond (zc == (0 : Int)) ((Option.bind (m_input_Fire F p1.1) fun v53 => (Option.bind (cond v53 (some
        ((za.1.Cool == (0 : Int)))) (some (false))) fun v60 => (Option.bind (cond v60 (some ((decide ((zb.length : Int) < (8 : Int)))))
        (some (false))) fun v66 => (cond v66 (Option.bind (m_step_shoot F za.1 (IntKind.wrap .u8 zc)) fun v74 => (Option.bind (appI
        zb ([v74] : List T_api_Shot)) fun v76 => m_step_Step_L33 F p1 n (IntKind.wrap .i64 (zc + (1 : Int))) ((T_api_Player.mk
        za.1.X za.1.Y za.1.VX za.1.VY za.1.Health (10 : Int) za.1.Face), za.2) v76)) (m_step_Step_L33
        F p1 n (IntKind.wrap .i64 (zc + (1 : Int))) za zb)))))) (cond (zc == (1 : Int)) ((Option.bind (m_input_Fire F p1.2) fun
        v53 => (Option.bind (cond v53 (some ((za.2.Cool == (0 : Int)))) (some (false))) fun v60 => (Option.bind (cond v60 (some ((decide
        ((zb.length : Int) < (8 : Int))))) (some (false))) fun v66 => (cond v66 (Option.bind (m_step_shoot F za.2 (IntKind.wrap .u8
        zc)) fun v74 => (Option.bind (appI zb ([v74] : List T_api_Shot)) fun v76 => m_step_Step_L33 F p1 n (IntKind.wrap .i64 (zc + (1
        : Int))) (za.1, (T_api_Player.mk za.2.X za.2.Y za.2.VX za.2.VY za.2.Health (10 : Int)
        za.2.Face)) v76)) (m_step_Step_L33 F p1 n (IntKind.wrap .i64 (zc + (1 : Int))) za zb)))))) none)) (some (za,
        zb)))

def m_step_Step_L70 (F : Nat) : Nat → Int → Int → Int → (T_api_Player × T_api_Player) → (List T_api_Shot) → (Int × Int) → Option (Int × Int × (T_api_Player × T_api_Player) × (List T_api_Shot) × (Int × Int))
  | 0, _, _, _, _, _, _ => none
  | n + 1, zc, zd, ze, za, zf, zg =>
      (cond (decide (zc < (2 : Int))) (cond (zc == (0 : Int)) ((cond (za.1.Health == (0 : Int)) (Option.bind (m_step_revive F
        (T_api_State.mk zd ze za zf zg) zc) fun zb => m_step_Step_L70 F n (IntKind.wrap .i64 (zc + (1
        : Int))) zb.Frame zb.Seed zb.Players zb.Shots zb.Score) (m_step_Step_L70 F n (IntKind.wrap .i64 (zc + (1 : Int)))
        zd ze za zf zg))) (cond (zc == (1 : Int)) ((cond (za.2.Health == (0 : Int)) (Option.bind
        (m_step_revive F (T_api_State.mk zd ze za zf zg) zc) fun zb => m_step_Step_L70 F n (IntKind.wrap
        .i64 (zc + (1 : Int))) zb.Frame zb.Seed zb.Players zb.Shots zb.Score) (m_step_Step_L70 F n (IntKind.wrap .i64
        (zc + (1 : Int))) zd ze za zf zg))) none)) (some (zd, ze, za, zf,
        zg)))

def m_step_Step (F : Nat) (p0 : T_api_State) (p1 : (Int × Int)) : Option (T_api_State) :=
  (Option.bind (m_state_Copy F p0) fun v12 => (Option.bind (m_state_Check F v12) fun v14 => (Option.bind (cond (v14 != (0 : Int)) (some (true))
    ((Option.bind (m_input_Legal F p1.1) fun v19 => some ((!v19))))) fun v21 => (Option.bind (cond v21 (some (true)) ((Option.bind (m_input_Legal F
    p1.2) fun v25 => some ((!v25))))) fun v27 => (cond v27 (some v12) (Option.bind (m_step_Step_L16 F p1 F (0 : Int) v12.Players) fun zc =>
    (Option.bind (m_step_Step_L33 F p1 F (0 : Int) zc v12.Shots) fun (za, zd) => (Option.bind (m_step_moved F za.1) fun
    v85 => (Option.bind (m_step_moved F za.2) fun v89 => (Option.bind (m_step_box F v85) fun v91 => (Option.bind (m_step_box F v89) fun v93 =>
    (Option.bind (m_geom_Over F v91 v93) fun v94 => (Option.bind ((cond v94 (Option.bind (m_step_stopped F za.1) fun v98 => (Option.bind
    (m_step_stopped F za.2) fun v102 => some (v98, v102))) (some (v85, v89)))) fun (zj, zk) => (Option.bind (m_step_fly F
    (T_api_State.mk v12.Frame v12.Seed (zj, zk) zd v12.Score)) fun zb => (Option.bind (m_step_Step_L70 F F (0 : Int) zb.Frame
    zb.Seed zb.Players zb.Shots zb.Score) fun (ze, zf, zg, zh, zi) => some (T_api_State.mk
    (IntKind.wrap .u64 (ze + (1 : Int))) zf zg zh zi))))))))))))))))

def m_slices_Clone___api_Input_api_Input (F : Nat) (p0 : (List Int)) : Option ((List Int)) :=
  (Option.bind (appI ([] : List Int) p0) fun v7 => some v7)

def m_queue_Queue_Drop (F : Nat) (p0 : T_queue_Queue) (p1 : Int) : Option (T_queue_Queue) :=
  (cond (decide (p1 ≤ p0.first_)) (some p0) (Option.bind (m_queue_Queue_Known F p0) fun v17 => (Option.bind (cutI p0.l (IntKind.wrap .u64 ((min p1
    v17) - p0.first_)) (p0.l.length : Int)) fun v33 => (Option.bind (cutI (copyL p0.l v33) 0 ((min v33.length p0.l.length : Nat) : Int)) fun v42 =>
    some (T_queue_Queue.mk (min p1 v17) v42 p0.last)))))

def m_rollback_Engine_Confirm (F : Nat) (p0 : T_rollback_Engine) (p0_4 : T_queue_Queue) (p0_5 : T_ring_Ring) (p1 : Int) : Option (T_rollback_Engine × T_queue_Queue × T_ring_Ring × (Int × Int) × Bool) :=
  (Option.bind (m_rollback_Engine_Next F p0 p0_4 p0_5) fun (za, zd) => (Option.bind (cond (!zd) (some (true)) (some ((decide (p1 ≤
    p0.sure.Frame))))) fun v23 => (cond v23 (some (p0, p0_4, p0_5, ((0 : Int), (0 : Int)), false)) (Option.bind (m_step_Step F p0.sure za) fun v31
    => (Option.bind (cutI p0.own (1 : Int) (p0.own.length : Int)) fun v39 => (Option.bind (m_slices_Clone___api_Input_api_Input F v39) fun v40 =>
    (Option.bind (m_queue_Queue_Drop F p0_4 v31.Frame) fun zb => (Option.bind (m_ring_Ring_Put F p0_5 v31) fun (zc, v61) => some
    ((T_rollback_Engine.mk p0.player p0.window v31 v40), zb, zc, za, true)))))))))

def m_fold_History_is (F : Nat) (p0 : T_fold_History) : Option (Bool) :=
  some (decide ((0 : Int) < p0.most))

def m_fold_History_Add (F : Nat) (p0 : T_fold_History) (p1 : (Int × Int)) : Option (T_fold_History × Int) :=
  (Option.bind (m_fold_History_is F p0) fun v7 => (cond (!v7) (some (p0, (1 : Int))) (Option.bind (m_input_Legal F p1.1) fun v12 => (Option.bind (cond
    (!v12) (some (true)) ((Option.bind (m_input_Legal F p1.2) fun v17 => some ((!v17))))) fun v19 => (cond v19 (some (p0, (2 : Int))) (Option.bind
    (cond ((IntKind.wrap .u64 (p0.count - p0.from_)) == p0.most) (some (true)) (some ((p0.count == (18446744073709551615 : Int))))) fun v41 => (cond
    v41 (some (p0, (7 : Int))) (Option.bind (getI p0.ring.1 (Int.tmod p0.count 256)) fun v51 => some ((T_fold_History.mk p0.from_ (IntKind.wrap .u64
    (p0.count + (1 : Int))) p0.most (Arr.set p0.ring (Int.tmod p0.count 256) p1)), (0 : Int))))))))))

def m_fold_History_At (F : Nat) (p0 : T_fold_History) (p1 : Int) : Option ((Int × Int) × Bool) :=
  (Option.bind (m_fold_History_is F p0) fun v7 => (Option.bind (cond v7 (some ((decide (p0.from_ ≤ p1)))) (some (false))) fun v15 => (Option.bind
    (cond v15 (some ((decide (p1 < p0.count)))) (some (false))) fun v23 => (cond v23 (Option.bind (getI p0.ring.1 (Int.tmod p1 256)) fun v30 => some
    (v30, v23)) (some (((0 : Int), (0 : Int)), v23))))))

def m_fold_History_Slice_L6 (F : Nat) (p0 : T_fold_History) (p2 : Int) : Nat → Int → (List (Int × Int)) → Int → Option ((List (Int × Int)))
  | 0, _, _, _ => none
  | n + 1, za, zb, zc =>
      (cond (decide (zc < p2)) (Option.bind (m_fold_History_At F p0 za) fun (zd, ze) => (cond (!ze) (some zb) (Option.bind (appI zb
        ([zd] : List (Int × Int))) fun v23 => m_fold_History_Slice_L6 F p0 p2 n (IntKind.wrap .u64 (za + (1 : Int))) v23 (IntKind.wrap .i64
        (zc + (1 : Int)))))) (some zb))

def m_fold_History_Slice (F : Nat) (p0 : T_fold_History) (p1 : Int) (p2 : Int) : Option ((List (Int × Int))) :=
  (Option.bind (m_fold_History_Slice_L6 F p0 p2 F p1 ([] : List (Int × Int)) (0 : Int)) fun za => some za)

def m_backfill_Plan (F : Nat) (p0 : T_fold_History) (p1 : Int) : Option (Int × Int) :=
  (Option.bind (m_fold_History_Slice F p0 p1 (32 : Int)) fun v8 => (cond ((v8.length : Int) == (0 : Int)) (some ((0 : Int), (0 : Int))) (some (p1,
    (v8.length : Int)))))

def m_rollback_Engine_C (F : Nat) (p0 : T_rollback_Engine) (p0_4 : T_queue_Queue) (p0_5 : T_ring_Ring) : Option (Int) :=
  (Option.bind (m_rollback_Engine_is F p0 p0_4 p0_5) fun v4 => (cond (!v4) (some (0 : Int)) (some p0.sure.Frame)))

def m_rollback_Engine_Own (F : Nat) (p0 : T_rollback_Engine) (p0_4 : T_queue_Queue) (p0_5 : T_ring_Ring) : Option ((List Int)) :=
  (Option.bind (m_rollback_Engine_is F p0 p0_4 p0_5) fun v4 => (cond (!v4) (some ([] : List Int)) (Option.bind (m_slices_Clone___api_Input_api_Input F
    p0.own) fun v10 => some v10)))

def m_rollback_Engine_T (F : Nat) (p0 : T_rollback_Engine) (p0_4 : T_queue_Queue) (p0_5 : T_ring_Ring) : Option (Int) :=
  (Option.bind (m_rollback_Engine_C F p0 p0_4 p0_5) fun v4 => (Option.bind (m_rollback_Engine_Own F p0 p0_4 p0_5) fun v6 => some (IntKind.wrap .u64
    (v4 + (IntKind.wrap .u64 (v6.length : Int))))))

def m_backfill_Pairs_1 (F : Nat) (p0 : Int) (p1 : (Int × Int)) (p2 : Unit) (p2_o : T_fold_History) (p3 : Unit) (p3_o : T_rollback_Engine) (p3_o_4 : T_queue_Queue) (p3_o_5 : T_ring_Ring) (p4 : Int) : Option (T_queue_Queue × T_ring_Ring × Int) :=
  (Option.bind (m_fold_History_At F p2_o p0) fun (zc, zd) => (Option.bind (m_rollback_Engine_C F p3_o p3_o_4 p3_o_5) fun v19 => (cond (decide
    (p0 < v19)) (Option.bind (cond zd (some ((!((zc.1 == p1.1) && (zc.2 == p1.2))))) (some (false))) fun v26 => (cond v26 (some (p3_o_4,
    p3_o_5, (14 : Int))) (some (p3_o_4, p3_o_5, (0 : Int))))) (Option.bind (m_rollback_Engine_T F p3_o p3_o_4 p3_o_5) fun v30 => (cond (decide (v30 ≤
    p0)) (some (p3_o_4, p3_o_5, (11 : Int))) (cond (p4 == (0 : Int)) ((Option.bind (m_rollback_Engine_Own F p3_o p3_o_4 p3_o_5) fun v34 =>
    (Option.bind (m_rollback_Engine_C F p3_o p3_o_4 p3_o_5) fun v37 => (Option.bind (getI v34 (IntKind.wrap .u64 (p0 - v37))) fun v39 => (cond (v39 !=
    p1.1) (some (p3_o_4, p3_o_5, (14 : Int))) (cond ((IntKind.wrap .u8 ((1 : Int) - p4)) == (0 : Int)) ((Option.bind (m_rollback_Engine_Remote F p3_o
    p3_o_4 p3_o_5 p0 p1.1) fun (za, zb, v51) => some (za, zb, v51))) (cond ((IntKind.wrap .u8 ((1 : Int) - p4)) == (1 : Int))
    ((Option.bind (m_rollback_Engine_Remote F p3_o p3_o_4 p3_o_5 p0 p1.2) fun (za, zb, v51) => some (za, zb, v51))) none))))))) (cond (p4
    == (1 : Int)) ((Option.bind (m_rollback_Engine_Own F p3_o p3_o_4 p3_o_5) fun v34 => (Option.bind (m_rollback_Engine_C F p3_o p3_o_4 p3_o_5) fun
    v37 => (Option.bind (getI v34 (IntKind.wrap .u64 (p0 - v37))) fun v39 => (cond (v39 != p1.2) (some (p3_o_4, p3_o_5, (14 : Int))) (cond
    ((IntKind.wrap .u8 ((1 : Int) - p4)) == (0 : Int)) ((Option.bind (m_rollback_Engine_Remote F p3_o p3_o_4 p3_o_5 p0 p1.1) fun (za, zb, v51)
    => some (za, zb, v51))) (cond ((IntKind.wrap .u8 ((1 : Int) - p4)) == (1 : Int)) ((Option.bind (m_rollback_Engine_Remote F p3_o p3_o_4
    p3_o_5 p0 p1.2) fun (za, zb, v51) => some (za, zb, v51))) none))))))) none)))))))

def m_backfill_Pairs_L100021 (F : Nat) (p0 : T_rollback_Engine) (p1 : T_fold_History) (p2 : Int) (p3 : Int) (p4 : (List (Int × Int))) : Nat → Int → Int → Int → (List Int) → Int → Int → (Arr T_ring_place 14) → Option ((Int × Int × (List Int) × Int × Int × (Arr T_ring_place 14)) ⊕ (Int × Int × Int × (List Int) × Int × Int × (Arr T_ring_place 14)))
  | 0, _, _, _, _, _, _, _ => none
  | n + 1, za, zc, zd, ze, zf, zg, zh =>
      (cond (decide (zc < (p4.length : Int))) (Option.bind (getI p4 zc) fun v100039 => (Option.bind (m_backfill_Pairs_1 F
        (IntKind.wrap .u64 (p3 + (IntKind.wrap .u64 za))) v100039 () p1 () p0 (T_queue_Queue.mk zd ze
        zf) (T_ring_Ring.mk zg zh) p2) fun (zb, zi, v100047) => (cond (v100047 != (0 : Int))
        (some (.inr (za, v100047, zb.first_, zb.l, zb.last, zi.size, zi.places)))
        (m_backfill_Pairs_L100021 F p0 p1 p2 p3 p4 n (IntKind.wrap .i64 (za + (1 : Int))) (IntKind.wrap .i64 (zc + (1 : Int)))
        zb.first_ zb.l zb.last zi.size zi.places)))) (some (.inl (za, zd, ze,
        zf, zg, zh))))

def m_backfill_Pairs (F : Nat) (p0 : T_rollback_Engine) (p0_4 : T_queue_Queue) (p0_5 : T_ring_Ring) (p1 : T_fold_History) (p2 : Int) (p3 : Int) (p4 : (List (Int × Int))) : Option (T_queue_Queue × T_ring_Ring × Int × Int) :=
  (Option.bind (cond (decide ((1 : Int) < p2)) (some (true)) (some ((decide ((IntKind.wrap .u64 ((18446744073709551615 : Int) - p3)) < (IntKind.wrap
    .u64 (p4.length : Int))))))) fun v100034 => (cond v100034 (some (p0_4, p0_5, (0 : Int), (2 : Int))) (Option.bind (m_backfill_Pairs_L100021 F p0 p1
    p2 p3 p4 F (0 : Int) (0 : Int) p0_4.first_ p0_4.l p0_4.last p0_5.size p0_5.places) (orE (fun (zf, za, zb,
    zc, zd, ze) => some ((T_queue_Queue.mk za zb zc), (T_ring_Ring.mk
    zd ze), zf, (0 : Int))) (fun (zf, zg, za, zb,
    zc, zd, ze) => some ((T_queue_Queue.mk za zb zc), (T_ring_Ring.mk
    zd ze), zf, zg))))))

def m_hindcastlaw28_pairs (F : Nat) (p0 : T_rollback_Engine) (p0_4 : T_queue_Queue) (p0_5 : T_ring_Ring) (p1 : T_fold_History) (p2 : Int) (p3 : (List (Int × Int))) : Option (T_queue_Queue × T_ring_Ring × Int) :=
  (Option.bind (m_backfill_Pairs F p0 p0_4 p0_5 p1 (0 : Int) p2 p3) fun (za, zb, zc, zd) => some (za, zb, (IntKind.wrap .i64 (zc
    + (IntKind.wrap .i64 ((100 : Int) * zd))))))

def m_rollback_Engine_Known (F : Nat) (p0 : T_rollback_Engine) (p0_4 : T_queue_Queue) (p0_5 : T_ring_Ring) : Option (Int) :=
  (Option.bind (m_rollback_Engine_is F p0 p0_4 p0_5) fun v4 => (cond (!v4) (some (0 : Int)) (Option.bind (m_queue_Queue_Known F p0_4) fun v10 => some
    v10)))

def m_hindcastlaw28_works_L100010 (F : Nat) (v100006s : (T_rollback_Engine × T_queue_Queue × T_ring_Ring)) : Nat → Int → Int → Int → Int → Int → (T_api_Player × T_api_Player) → (List T_api_Shot) → (Int × Int) → (List Int) → Option (Int × Int × Int × Int × (T_api_Player × T_api_Player) × (List T_api_Shot) × (Int × Int) × (List Int))
  | 0, _, _, _, _, _, _, _, _, _ => none
  | n + 1, zj, zg, zh, zb, zc, zd, ze, zf, zi =>
      (cond (decide (zj < (3 : Int))) (Option.bind (m_rollback_Engine_Local F (T_rollback_Engine.mk zg
        zh (T_api_State.mk zb zc zd ze
        zf) zi) v100006s.2.1 v100006s.2.2 (2 : Int)) fun (za, v100013) => m_hindcastlaw28_works_L100010 F
        v100006s n (IntKind.wrap .i64 (zj + (1 : Int))) za.player za.window za.sure.Frame za.sure.Seed
        za.sure.Players za.sure.Shots za.sure.Score za.own) (some (zg, zh,
        zb, zc, zd, ze, zf,
        zi)))

def m_hindcastlaw28_works (F : Nat) : Option (Bool) :=
  (Option.bind (m_state_Start F (7 : Int)) fun v100005 => (Option.bind (m_rollback_New F v100005 (0 : Int) (4 : Int)) fun v100006 => poE none (fun
    v100006s => (Option.bind (m_fold_New F (0 : Int) (256 : Int)) fun v100007 => poE none (fun v100007s => (Option.bind (m_hindcastlaw28_works_L100010
    F v100006s F (0 : Int) v100006s.1.player v100006s.1.window v100006s.1.sure.Frame v100006s.1.sure.Seed v100006s.1.sure.Players
    v100006s.1.sure.Shots v100006s.1.sure.Score v100006s.1.own) fun (zk, zl, zf,
    zg, zh, zi, zj, zm) => (Option.bind
    (m_rollback_Engine_Remote F (T_rollback_Engine.mk zk zl (T_api_State.mk zf
    zg zh zi zj) zm) v100006s.2.1 v100006s.2.2 (0 :
    Int) (1 : Int)) fun (zy, zz, v100015) => (Option.bind (m_rollback_Engine_Confirm F (T_rollback_Engine.mk zk
    zl (T_api_State.mk zf zg zh zi
    zj) zm) zy zz (1 : Int)) fun (zo, zn, zp, zae, zaf) =>
    (Option.bind (m_fold_History_Add F v100007s ((2 : Int), (1 : Int))) fun (zq, v100020) => (Option.bind (m_backfill_Plan F zq (0 :
    Int)) fun (zac, zad) => (Option.bind (cond (zac == (0 : Int)) (some ((zad == (1 : Int)))) (some (false))) fun v25 => (Option.bind (cond
    v25 ((Option.bind (m_hindcastlaw28_pairs F zo zn zp zq (0 : Int) ([((2 : Int), (1 : Int)), ((2 : Int), (5 : Int))] :
    List (Int × Int))) fun (zr, zaa, v32) => some ((v32 == (2 : Int)), zr.first_, zr.l, zr.last, zaa.size, zaa.places))) (some
    (false, zn.first_, zn.l, zn.last, zp.size, zp.places))) fun (v34, za, zb,
    zc, zd, ze) => (Option.bind (cond v34 ((Option.bind (m_rollback_Engine_Known F zo
    (T_queue_Queue.mk za zb zc) (T_ring_Ring.mk zd ze)) fun v37 =>
    some ((v37 == (2 : Int))))) (some (false))) fun v39 => (Option.bind (cond v39 ((Option.bind (m_hindcastlaw28_pairs F zo (T_queue_Queue.mk
    za zb zc) (T_ring_Ring.mk zd ze) zq (0 : Int) ([((2 : Int),
    (3 : Int))] : List (Int × Int))) fun (zs, zab, v45) => some ((v45 == (1400 : Int)), zs.first_, zs.l, zs.last, zab.size,
    zab.places))) (some (false, za, zb, zc, zd, ze))) fun (v47,
    zt, zu, zv, zw, zx) => some v47)))))))))) v100007)) v100006))

def m_hindcastlaw28_at (F : Nat) (p0 : (List Int)) (p1 : Int) : Option (Int) :=
  (cond (decide (p1 < (p0.length : Int))) (Option.bind (getI p0 p1) fun v11 => some (Int.tmod v11 64)) (some (0 : Int)))

def m_hindcastlaw28_Setup_pair (F : Nat) (p0 : T_hindcastlaw28_Setup) (p1 : Int) : Option ((Int × Int)) :=
  (Option.bind (m_hindcastlaw28_at F p0.Mine p1) fun v13 => (cond ((Int.tmod p0.Player 2) == (0 : Int)) ((Option.bind (m_hindcastlaw28_at F p0.Theirs
    p1) fun v22 => (cond ((IntKind.wrap .u8 ((1 : Int) - (Int.tmod p0.Player 2))) == (0 : Int)) (some (v22, (0 : Int))) (cond ((IntKind.wrap .u8 ((1 :
    Int) - (Int.tmod p0.Player 2))) == (1 : Int)) (some (v13, v22)) none)))) (cond ((Int.tmod p0.Player 2) == (1 : Int)) ((Option.bind
    (m_hindcastlaw28_at F p0.Theirs p1) fun v22 => (cond ((IntKind.wrap .u8 ((1 : Int) - (Int.tmod p0.Player 2))) == (0 : Int)) (some (v22, v13))
    (cond ((IntKind.wrap .u8 ((1 : Int) - (Int.tmod p0.Player 2))) == (1 : Int)) (some ((0 : Int), v22)) none)))) none)))

def m_fold_History_Drop (F : Nat) (p0 : T_fold_History) (p1 : Int) : Option (T_fold_History) :=
  (Option.bind (m_fold_History_is F p0) fun v5 => (cond v5 (some (T_fold_History.mk (max p0.from_ (min p1 p0.count)) p0.count p0.most p0.ring)) (some
    p0)))

def m_hindcastref08_Start (F : Nat) (p0 : Int) : Option (T_api_State) :=
  some (T_api_State.mk (0 : Int) p0 ((T_api_Player.mk (8192 : Int) (14336 : Int) (0 : Int) (0 : Int) (100 : Int) (0 : Int) (0 : Int)),
    (T_api_Player.mk (53248 : Int) (14336 : Int) (0 : Int) (0 : Int) (100 : Int) (0 : Int) (1 : Int))) ([] : List T_api_Shot) ((0 : Int), (0 : Int)))

def m_hindcastref08_in (F : Nat) (p0 : Int) (p1 : Int) (p2 : Int) : Option (Bool) :=
  (Option.bind (cond (decide (p1 ≤ p0)) (some ((decide (p0 ≤ p2)))) (some (false))) fun v14 => some v14)

def m_hindcastref08_Player (F : Nat) (p0 : T_api_Player) : Option (Bool) :=
  (Option.bind (m_hindcastref08_in F p0.X (0 : Int) (61440 : Int)) fun v5 => (Option.bind (cond v5 ((Option.bind (m_hindcastref08_in F p0.Y (0 : Int)
    (28672 : Int)) fun v9 => some (v9))) (some (false))) fun v10 => (Option.bind (cond v10 ((Option.bind (m_hindcastref08_in F p0.VX (-1024 : Int)
    (1024 : Int)) fun v14 => some (v14))) (some (false))) fun v15 => (Option.bind (cond v15 ((Option.bind (m_hindcastref08_in F p0.VY (-1024 : Int)
    (1024 : Int)) fun v19 => some (v19))) (some (false))) fun v20 => (Option.bind (cond v20 (some ((decide ((1 : Int) ≤ p0.Health)))) (some (false)))
    fun v25 => (Option.bind (cond v25 (some ((decide (p0.Health ≤ (100 : Int))))) (some (false))) fun v30 => (Option.bind (cond v30 (some ((decide
    (p0.Cool ≤ (30 : Int))))) (some (false))) fun v35 => (Option.bind (cond v35 (some ((decide (p0.Face ≤ (3 : Int))))) (some (false))) fun v40 =>
    some v40))))))))

def m_hindcastref08_Shot (F : Nat) (p0 : T_api_Shot) : Option (Bool) :=
  (Option.bind (m_hindcastref08_in F p0.X (0 : Int) (65024 : Int)) fun v5 => (Option.bind (cond v5 ((Option.bind (m_hindcastref08_in F p0.Y (0 : Int)
    (32256 : Int)) fun v9 => some (v9))) (some (false))) fun v10 => (Option.bind (cond v10 ((Option.bind (m_hindcastref08_in F p0.VX (-2048 : Int)
    (2048 : Int)) fun v14 => some (v14))) (some (false))) fun v15 => (Option.bind (cond v15 ((Option.bind (m_hindcastref08_in F p0.VY (-2048 : Int)
    (2048 : Int)) fun v19 => some (v19))) (some (false))) fun v20 => (Option.bind (cond v20 (some ((decide (p0.Owner ≤ (1 : Int))))) (some (false)))
    fun v25 => (Option.bind (cond v25 (some ((decide ((1 : Int) ≤ p0.Life)))) (some (false))) fun v30 => (Option.bind (cond v30 (some ((decide
    (p0.Life ≤ (40 : Int))))) (some (false))) fun v35 => some v35)))))))

def m_hindcastref08_Check_L14 (F : Nat) (p0 : T_api_State) : Nat → Int → Option ((Int) ⊕ (Int))
  | 0, _ => none
  | n + 1, za =>
      (cond (decide (za < (p0.Shots.length : Int))) (Option.bind (getI p0.Shots za) fun v32 => (Option.bind (m_hindcastref08_Shot F v32) fun v34
        => (cond (!v34) (some (.inr (4 : Int))) (m_hindcastref08_Check_L14 F p0 n (IntKind.wrap .i64 (za + (1 : Int))))))) (some (.inl (0 : Int))))

def m_hindcastref08_Check (F : Nat) (p0 : T_api_State) : Option (Int) :=
  (Option.bind (cond (decide ((8 : Int) < (p0.Shots.length : Int))) (some (true)) ((Option.bind (m_hindcastref08_Player F p0.Players.1) fun v12 =>
    some ((!v12))))) fun v14 => (Option.bind (cond v14 (some (true)) ((Option.bind (m_hindcastref08_Player F p0.Players.2) fun v19 => some ((!v19)))))
    fun v21 => (cond v21 (some (4 : Int)) (Option.bind (m_hindcastref08_Check_L14 F p0 F (0 : Int)) (orE (fun za => some (0 : Int)) (fun r15 =>
    some r15))))))

def m_hindcastref08_Copy (F : Nat) (p0 : T_api_State) : Option (T_api_State) :=
  (Option.bind (appI ([] : List T_api_Shot) p0.Shots) fun v10 => some (T_api_State.mk p0.Frame p0.Seed p0.Players v10 p0.Score))

def m_hindcastref24_New (F : Nat) (p0 : Int) : Option (T_hindcastref24_Queue) :=
  some (T_hindcastref24_Queue.mk p0 p0 ([] : List Int))

def m_hindcastref26_New (F : Nat) (p0 : T_api_State) (p1 : Int) (p2 : Int) : Option ((Option (T_hindcastref26_Engine × T_hindcastref24_Queue))) :=
  (Option.bind (m_hindcastref08_Check F p0) fun v8 => (Option.bind (cond (v8 != (0 : Int)) (some (true)) (some ((decide ((9223372036854775808 : Int) <
    p0.Frame))))) fun v14 => (Option.bind (cond v14 (some (true)) (some ((decide ((1 : Int) < p1))))) fun v18 => (Option.bind (cond v18 (some (true))
    (some ((decide (p2 < (1 : Int)))))) fun v22 => (Option.bind (cond v22 (some (true)) (some ((decide ((12 : Int) < p2))))) fun v26 => (cond v26
    (some none) (Option.bind (m_hindcastref08_Copy F p0) fun v30 => (Option.bind (m_hindcastref24_New F p0.Frame) fun v33 => some (some
    ((T_hindcastref26_Engine.mk p1 p2 v30 ([] : List Int)), v33))))))))))

def m_hindcastref26_Engine_Local (F : Nat) (p0 : T_hindcastref26_Engine) (p0_4 : T_hindcastref24_Queue) (p1 : Int) : Option (T_hindcastref26_Engine × Int) :=
  (cond (decide ((64 : Int) ≤ p1)) (some (p0, (2 : Int))) (cond (decide (p0.Window ≤ (p0.Own.length : Int))) (some (p0, (7 : Int))) (Option.bind (appI
    p0.Own ([p1] : List Int)) fun v24 => some ((T_hindcastref26_Engine.mk p0.Player p0.Window p0.Sure v24), (0 : Int)))))

def m_hindcastref24_Queue_Known (F : Nat) (p0 : T_hindcastref24_Queue) : Option (Int) :=
  some (IntKind.wrap .u64 (p0.Begin + (IntKind.wrap .u64 (p0.L.length : Int))))

def m_hindcastref24_Queue_At (F : Nat) (p0 : T_hindcastref24_Queue) (p1 : Int) : Option (Int × Bool) :=
  (Option.bind (cond (decide (p1 < p0.First)) (some (true)) ((Option.bind (m_hindcastref24_Queue_Known F p0) fun v15 => some ((decide (v15 ≤ p1))))))
    fun v17 => (cond v17 (some ((0 : Int), false)) (Option.bind (getI p0.L (IntKind.wrap .u64 (p1 - p0.Begin))) fun v28 => some (v28, true))))

def m_hindcastref24_Queue_Add (F : Nat) (p0 : T_hindcastref24_Queue) (p1 : Int) (p2 : Int) : Option (T_hindcastref24_Queue × Int) :=
  (cond (decide ((64 : Int) ≤ p2)) (some (p0, (2 : Int))) (cond (decide (p1 < p0.First)) (some (p0, (0 : Int))) (Option.bind (m_hindcastref24_Queue_At
    F p0 p1) fun (zb, za) => (Option.bind (cond za (some ((zb != p2))) (some (false))) fun v28 => (cond v28 (some (p0, (14 : Int))) (cond
    za (some (p0, (0 : Int))) (Option.bind (m_hindcastref24_Queue_Known F p0) fun v32 => (Option.bind (cond (p1 != v32) (some (true)) (some ((p1 ==
    (18446744073709551615 : Int))))) fun v37 => (cond v37 (some (p0, (11 : Int))) (Option.bind (m_hindcastref24_Queue_Known F p0) fun v39 => (cond
    (decide ((24 : Int) ≤ (IntKind.wrap .u64 (v39 - p0.First)))) (some (p0, (7 : Int))) (Option.bind (appI p0.L ([p2] : List Int)) fun v53 => some
    ((T_hindcastref24_Queue.mk p0.Begin p0.First v53), (0 : Int))))))))))))))

def m_hindcastref26_Engine_Remote (F : Nat) (p0 : T_hindcastref26_Engine) (p0_4 : T_hindcastref24_Queue) (p1 : Int) (p2 : Int) : Option (T_hindcastref24_Queue × Int) :=
  (Option.bind (m_hindcastref24_Queue_Add F p0_4 p1 p2) fun (za, v13) => some (za, v13))

def m_hindcastref24_Queue_Guess (F : Nat) (p0 : T_hindcastref24_Queue) (p1 : Int) : Option (Int) :=
  (Option.bind (m_hindcastref24_Queue_At F p0 p1) fun (za, zb) => (cond zb (some za) (cond ((p0.L.length : Int) == (0 : Int)) (some (0 :
    Int)) (Option.bind (getI p0.L (IntKind.wrap .i64 ((p0.L.length : Int) - (1 : Int)))) fun v31 => some v31))))

def m_hindcastref26_Engine_pair (F : Nat) (p0 : T_hindcastref26_Engine) (p0_4 : T_hindcastref24_Queue) (p1 : Int) : Option ((Int × Int)) :=
  (Option.bind (getI p0.Own (IntKind.wrap .u64 (p1 - p0.Sure.Frame))) fun v22 => (cond (p0.Player == (0 : Int)) ((Option.bind
    (m_hindcastref24_Queue_Guess F p0_4 p1) fun v35 => (cond ((IntKind.wrap .u8 ((1 : Int) - p0.Player)) == (0 : Int)) (some (v35, (0 : Int))) (cond
    ((IntKind.wrap .u8 ((1 : Int) - p0.Player)) == (1 : Int)) (some (v22, v35)) none)))) (cond (p0.Player == (1 : Int)) ((Option.bind
    (m_hindcastref24_Queue_Guess F p0_4 p1) fun v35 => (cond ((IntKind.wrap .u8 ((1 : Int) - p0.Player)) == (0 : Int)) (some (v35, v22)) (cond
    ((IntKind.wrap .u8 ((1 : Int) - p0.Player)) == (1 : Int)) (some ((0 : Int), v35)) none)))) none)))

def m_hindcastref26_Engine_Next (F : Nat) (p0 : T_hindcastref26_Engine) (p0_4 : T_hindcastref24_Queue) : Option ((Int × Int) × Bool) :=
  (Option.bind (m_hindcastref24_Queue_At F p0_4 p0.Sure.Frame) fun (zb, za) => (Option.bind (cond ((p0.Own.length : Int) == (0 : Int)) (some
    (true)) (some ((!za)))) fun v28 => (cond v28 (some (((0 : Int), (0 : Int)), false)) (Option.bind (m_hindcastref26_Engine_pair F p0 p0_4
    p0.Sure.Frame) fun v36 => some (v36, true)))))

def m_hindcastref06_Legal (F : Nat) (p0 : Int) : Option (Bool) :=
  some (decide (p0 < (64 : Int)))

def m_hindcastref06_bit (F : Nat) (p0 : Int) (p1 : Int) : Option (Bool) :=
  (Option.bind (shrI .i64 (IntKind.wrap .i64 p0) p1) fun v8 => some ((Int.tmod v8 2) == (1 : Int)))

def m_hindcastref06_against (F : Nat) (p0 : Bool) (p1 : Bool) : Option (Int) :=
  (Option.bind (cond p0 (some ((!p1))) (some (false))) fun v9 => (cond v9 (some (-1 : Int)) (Option.bind (cond p1 (some ((!p0))) (some (false))) fun
    v14 => (cond v14 (some (1 : Int)) (some (0 : Int))))))

def m_hindcastref06_Dir (F : Nat) (p0 : Int) : Option (Int × Int) :=
  (Option.bind (m_hindcastref06_bit F p0 (0 : Int)) fun v5 => (Option.bind (m_hindcastref06_bit F p0 (1 : Int)) fun v7 => (Option.bind
    (m_hindcastref06_against F v5 v7) fun v8 => (Option.bind (m_hindcastref06_bit F p0 (2 : Int)) fun v10 => (Option.bind (m_hindcastref06_bit F p0 (3
    : Int)) fun v12 => (Option.bind (m_hindcastref06_against F v10 v12) fun v13 => some (v8, v13)))))))

def m_hindcastref06_Dash (F : Nat) (p0 : Int) : Option (Bool) :=
  (Option.bind (m_hindcastref06_bit F p0 (5 : Int)) fun v4 => some v4)

def m_hindcastref09_speed (F : Nat) (p0 : Int) (p1 : Int) (p2 : Bool) : Option (Int) :=
  (Option.bind ((cond (p1 != (0 : Int)) (some (IntKind.wrap .i32 (p0 + (IntKind.wrap .i32 ((64 : Int) * p1))))) (some p0))) fun za => (Option.bind
    ((cond (p1 == (0 : Int)) (Option.bind (cond (decide ((-8 : Int) < (IntKind.wrap .i32 (za - (IntKind.wrap .i32 (Int.tdiv za 8)))))) (some
    ((decide ((IntKind.wrap .i32 (za - (IntKind.wrap .i32 (Int.tdiv za 8)))) < (8 : Int))))) (some (false))) fun v24 => (cond v24 (some (0 : Int))
    (some (IntKind.wrap .i32 (za - (IntKind.wrap .i32 (Int.tdiv za 8))))))) (some za))) fun zc => (Option.bind ((cond p2 (some (IntKind.wrap
    .i32 (zc * (2 : Int)))) (some zc))) fun zb => (cond (decide ((1024 : Int) < zb)) (some (1024 : Int)) (cond (decide (zb < (-1024 :
    Int))) (some (-1024 : Int)) (some zb))))))

def m_hindcastref09_one (F : Nat) (p0 : T_api_Player) (p1 : Int) : Option (T_api_Player) :=
  (Option.bind (m_hindcastref06_Dir F p1) fun (zc, zd) => (Option.bind ((cond (decide ((0 : Int) < p0.Cool)) (some (T_api_Player.mk p0.X p0.Y
    p0.VX p0.VY p0.Health (IntKind.wrap .u8 (p0.Cool - (1 : Int))) p0.Face)) (some p0))) fun za => (Option.bind ((cond (decide ((0 : Int) < zc))
    (some (T_api_Player.mk za.X za.Y za.VX za.VY za.Health za.Cool (0 : Int))) (cond (decide (zc < (0 : Int))) (some
    (T_api_Player.mk za.X za.Y za.VX za.VY za.Health za.Cool (1 : Int))) (cond (decide (zd < (0 : Int))) (some (T_api_Player.mk
    za.X za.Y za.VX za.VY za.Health za.Cool (2 : Int))) (cond (decide ((0 : Int) < zd)) (some (T_api_Player.mk za.X za.Y
    za.VX za.VY za.Health za.Cool (3 : Int))) (some za)))))) fun zb => (Option.bind (m_hindcastref06_Dash F p1) fun v33 =>
    (Option.bind (cond v33 (some ((zb.Cool == (0 : Int)))) (some (false))) fun v38 => (Option.bind (m_hindcastref09_speed F zb.VX zc v38)
    fun v43 => (Option.bind (m_hindcastref09_speed F zb.VY zd v38) fun v49 => (Option.bind ((cond v38 (some (T_api_Player.mk zb.X zb.Y
    v43 v49 zb.Health (30 : Int) zb.Face)) (some (T_api_Player.mk zb.X zb.Y v43 v49 zb.Health zb.Cool zb.Face)))) fun
    ze => some ze))))))))

def m_hindcastref06_Fire (F : Nat) (p0 : Int) : Option (Bool) :=
  (Option.bind (m_hindcastref06_bit F p0 (4 : Int)) fun v4 => some v4)

def m_hindcastref09_two_o0_L6 (F : Nat) (p1 : (Int × Int)) : Nat → Int → (T_api_Player × T_api_Player) → (List T_api_Shot) → Option ((T_api_Player × T_api_Player) × (List T_api_Shot))
  | 0, _, _, _ => none
  | n + 1, zc, za, zb =>
      (cond (decide (zc < (2 : Int))) (cond (zc == (0 : Int)) ((Option.bind (m_hindcastref06_Fire F p1.1) fun v19 => (Option.bind (cond (!v19)
        (some (true)) (some ((za.1.Cool != (0 : Int))))) fun v25 => (Option.bind (cond v25 (some (true)) (some ((decide ((8 : Int) ≤
        (zb.length : Int)))))) fun v31 => (cond v31 (m_hindcastref09_two_o0_L6 F p1 n (IntKind.wrap .i64 (zc + (1 : Int))) za zb)
        (Option.bind (getI ([(2048 : Int), (-2048 : Int), (0 : Int), (0 : Int)] : List Int) za.1.Face) fun v44 => (Option.bind (getI ([(0 :
        Int), (0 : Int), (-2048 : Int), (2048 : Int)] : List Int) za.1.Face) fun v50 => (Option.bind (appI zb ([(T_api_Shot.mk
        (IntKind.wrap .i32 (za.1.X + (1792 : Int))) (IntKind.wrap .i32 (za.1.Y + (1792 : Int))) v44 v50 (IntKind.wrap .u8 zc) (40 :
        Int))] : List T_api_Shot)) fun v57 => m_hindcastref09_two_o0_L6 F p1 n (IntKind.wrap .i64 (zc + (1 : Int))) ((T_api_Player.mk za.1.X
        za.1.Y za.1.VX za.1.VY za.1.Health (10 : Int) za.1.Face), za.2) v57)))))))) (cond (zc == (1 : Int))
        ((Option.bind (m_hindcastref06_Fire F p1.2) fun v19 => (Option.bind (cond (!v19) (some (true)) (some ((za.2.Cool != (0 : Int))))) fun
        v25 => (Option.bind (cond v25 (some (true)) (some ((decide ((8 : Int) ≤ (zb.length : Int)))))) fun v31 => (cond v31
        (m_hindcastref09_two_o0_L6 F p1 n (IntKind.wrap .i64 (zc + (1 : Int))) za zb) (Option.bind (getI ([(2048 : Int), (-2048 : Int),
        (0 : Int), (0 : Int)] : List Int) za.2.Face) fun v44 => (Option.bind (getI ([(0 : Int), (0 : Int), (-2048 : Int), (2048 : Int)] : List
        Int) za.2.Face) fun v50 => (Option.bind (appI zb ([(T_api_Shot.mk (IntKind.wrap .i32 (za.2.X + (1792 : Int))) (IntKind.wrap
        .i32 (za.2.Y + (1792 : Int))) v44 v50 (IntKind.wrap .u8 zc) (40 : Int))] : List T_api_Shot)) fun v57 => m_hindcastref09_two_o0_L6 F p1
        n (IntKind.wrap .i64 (zc + (1 : Int))) (za.1, (T_api_Player.mk za.2.X za.2.Y za.2.VX za.2.VY za.2.Health
        (10 : Int) za.2.Face)) v57)))))))) none)) (some (za, zb)))

def m_hindcastref09_two_o0 (F : Nat) (p0 : T_api_State) (p1 : (Int × Int)) : Option (T_api_State) :=
  (Option.bind (m_hindcastref09_two_o0_L6 F p1 F (0 : Int) p0.Players p0.Shots) fun (za, zb) => some (T_api_State.mk p0.Frame p0.Seed
    za zb p0.Score))

def m_hindcastref07_Move (F : Nat) (p0 : Int) (p1 : Int) (p2 : Int) (p3 : Int) : Option (Int × Int) :=
  (cond (decide (p3 < p2)) (some (p2, (0 : Int))) (cond (decide ((IntKind.wrap .i64 ((IntKind.wrap .i64 p0) + (IntKind.wrap .i64 p1))) < (IntKind.wrap
    .i64 p2))) (some (p2, (0 : Int))) (cond (decide ((IntKind.wrap .i64 p3) < (IntKind.wrap .i64 ((IntKind.wrap .i64 p0) + (IntKind.wrap .i64 p1)))))
    (some (p3, (0 : Int))) (some ((IntKind.wrap .i32 (IntKind.wrap .i64 ((IntKind.wrap .i64 p0) + (IntKind.wrap .i64 p1)))), p1)))))

def m_hindcastref09_Box (F : Nat) (p0 : T_api_Player) : Option (T_api_Box) :=
  some (T_api_Box.mk p0.X p0.Y (4096 : Int) (4096 : Int))

def m_hindcastref07_greater (F : Nat) (p0 : Int) (p1 : Int) : Option (Int) :=
  (cond (decide (p1 < p0)) (some p0) (some p1))

def m_hindcastref07_Has (F : Nat) (p0 : T_api_Box) (p1 : Int) (p2 : Int) : Option (Bool) :=
  (Option.bind (cond (decide ((IntKind.wrap .i64 p0.X) ≤ p1)) (some ((decide ((IntKind.wrap .i64 (p1 - (IntKind.wrap .i64 p0.X))) < (IntKind.wrap .i64
    p0.W))))) (some (false))) fun v22 => (Option.bind (cond v22 (some ((decide ((IntKind.wrap .i64 p0.Y) ≤ p2)))) (some (false))) fun v29 =>
    (Option.bind (cond v29 (some ((decide ((IntKind.wrap .i64 (p2 - (IntKind.wrap .i64 p0.Y))) < (IntKind.wrap .i64 p0.H))))) (some (false))) fun v40
    => some v40)))

def m_hindcastref07_Over (F : Nat) (p0 : T_api_Box) (p1 : T_api_Box) : Option (Bool) :=
  (Option.bind (m_hindcastref07_greater F (IntKind.wrap .i64 p0.X) (IntKind.wrap .i64 p1.X)) fun v13 => (Option.bind (m_hindcastref07_greater F
    (IntKind.wrap .i64 p0.Y) (IntKind.wrap .i64 p1.Y)) fun v20 => (Option.bind (m_hindcastref07_Has F p0 v13 v20) fun v24 => (Option.bind (cond v24
    ((Option.bind (m_hindcastref07_Has F p1 v13 v20) fun v29 => some (v29))) (some (false))) fun v30 => some v30))))

def m_hindcastref09_three_L8 (F : Nat) (p0 : T_api_State) : Nat → Int → (T_api_Player × T_api_Player) → Option ((T_api_Player × T_api_Player))
  | 0, _, _ => none
  | n + 1, zb, za =>
      (cond (decide (zb < (2 : Int))) (cond (zb == (0 : Int)) ((Option.bind (m_hindcastref07_Move F p0.Players.1.X p0.Players.1.VX (0 : Int)
        (61440 : Int)) fun (zc, zd) => (Option.bind (m_hindcastref07_Move F p0.Players.1.Y p0.Players.1.VY (0 : Int) (28672 : Int)) fun (ze,
        zf) => m_hindcastref09_three_L8 F p0 n (IntKind.wrap .i64 (zb + (1 : Int))) ((T_api_Player.mk zc ze zd zf za.1.Health
        za.1.Cool za.1.Face), za.2)))) (cond (zb == (1 : Int)) ((Option.bind (m_hindcastref07_Move F p0.Players.2.X
        p0.Players.2.VX (0 : Int) (61440 : Int)) fun (zc, zd) => (Option.bind (m_hindcastref07_Move F p0.Players.2.Y p0.Players.2.VY (0 : Int)
        (28672 : Int)) fun (ze, zf) => m_hindcastref09_three_L8 F p0 n (IntKind.wrap .i64 (zb + (1 : Int))) (za.1, (T_api_Player.mk
        zc ze zd zf za.2.Health za.2.Cool za.2.Face))))) none)) (some za))

def m_hindcastref09_three_L34 (F : Nat) : Nat → Int → (T_api_Player × T_api_Player) → Option ((T_api_Player × T_api_Player))
  | 0, _, _ => none
  | n + 1, zb, za =>
      (cond (decide (zb < (2 : Int))) (cond (zb == (0 : Int)) (m_hindcastref09_three_L34 F n (IntKind.wrap .i64 (zb + (1 : Int)))
        ((T_api_Player.mk za.1.X za.1.Y (0 : Int) (0 : Int) za.1.Health za.1.Cool za.1.Face), za.2)) (cond
        (zb == (1 : Int)) (m_hindcastref09_three_L34 F n (IntKind.wrap .i64 (zb + (1 : Int))) (za.1, (T_api_Player.mk za.2.X
        za.2.Y (0 : Int) (0 : Int) za.2.Health za.2.Cool za.2.Face))) none)) (some za))

def m_hindcastref09_three (F : Nat) (p0 : T_api_State) : Option (T_api_State) :=
  (Option.bind (m_hindcastref09_three_L8 F p0 F (0 : Int) p0.Players) fun za => (Option.bind (m_hindcastref09_Box F za.1) fun v52 =>
    (Option.bind (m_hindcastref09_Box F za.2) fun v56 => (Option.bind (m_hindcastref07_Over F v52 v56) fun v57 => (Option.bind ((cond v57
    (Option.bind (m_hindcastref09_three_L34 F F (0 : Int) p0.Players) fun zc => some zc) (some za))) fun zb => some
    (T_api_State.mk p0.Frame p0.Seed zb p0.Shots p0.Score))))))

def m_hindcastref09_three_o0_L8 (F : Nat) (p0 : T_api_State) : Nat → Int → (T_api_Player × T_api_Player) → Option ((T_api_Player × T_api_Player))
  | 0, _, _ => none
  | n + 1, zb, za =>
      (cond (decide (zb < (2 : Int))) (cond (zb == (0 : Int)) ((Option.bind (m_hindcastref07_Move F p0.Players.1.X p0.Players.1.VX (0 : Int)
        (61440 : Int)) fun (zc, zd) => (Option.bind (m_hindcastref07_Move F p0.Players.1.Y p0.Players.1.VY (0 : Int) (28672 : Int)) fun (ze,
        zf) => m_hindcastref09_three_o0_L8 F p0 n (IntKind.wrap .i64 (zb + (1 : Int))) ((T_api_Player.mk zc ze zd zf
        za.1.Health za.1.Cool za.1.Face), za.2)))) (cond (zb == (1 : Int)) ((Option.bind (m_hindcastref07_Move F
        p0.Players.2.X p0.Players.2.VX (0 : Int) (61440 : Int)) fun (zc, zd) => (Option.bind (m_hindcastref07_Move F p0.Players.2.Y
        p0.Players.2.VY (0 : Int) (28672 : Int)) fun (ze, zf) => m_hindcastref09_three_o0_L8 F p0 n (IntKind.wrap .i64 (zb + (1 : Int)))
        (za.1, (T_api_Player.mk zc ze zd zf za.2.Health za.2.Cool za.2.Face))))) none)) (some za))

def m_hindcastref09_three_o0_L34 (F : Nat) : Nat → Int → (T_api_Player × T_api_Player) → Option ((T_api_Player × T_api_Player))
  | 0, _, _ => none
  | n + 1, zb, za =>
      (cond (decide (zb < (2 : Int))) (cond (zb == (0 : Int)) (m_hindcastref09_three_o0_L34 F n (IntKind.wrap .i64 (zb + (1 : Int)))
        ((T_api_Player.mk za.1.X za.1.Y (0 : Int) (0 : Int) za.1.Health za.1.Cool za.1.Face), za.2)) (cond
        (zb == (1 : Int)) (m_hindcastref09_three_o0_L34 F n (IntKind.wrap .i64 (zb + (1 : Int))) (za.1, (T_api_Player.mk za.2.X
        za.2.Y (0 : Int) (0 : Int) za.2.Health za.2.Cool za.2.Face))) none)) (some za))

def m_hindcastref09_three_o0 (F : Nat) (p0 : T_api_State) : Option (T_api_State) :=
  (Option.bind (m_hindcastref09_three_o0_L8 F p0 F (0 : Int) p0.Players) fun za => (Option.bind (m_hindcastref09_Box F za.1) fun v52 =>
    (Option.bind (m_hindcastref09_Box F za.2) fun v56 => (Option.bind (m_hindcastref07_Over F v52 v56) fun v57 => (Option.bind ((cond v57
    (Option.bind (m_hindcastref09_three_o0_L34 F F (0 : Int) p0.Players) fun zc => some zc) (some za))) fun zb => some
    (T_api_State.mk p0.Frame p0.Seed zb p0.Shots p0.Score))))))

def m_hindcastref07_Inside (F : Nat) (p0 : T_api_Box) (p1 : T_api_Box) : Option (Bool) :=
  (Option.bind (cond (decide ((0 : Int) < p0.W)) (some ((decide ((0 : Int) < p0.H)))) (some (false))) fun v20 => (Option.bind (cond v20 ((Option.bind
    (m_hindcastref07_Has F p1 (IntKind.wrap .i64 p0.X) (IntKind.wrap .i64 p0.Y)) fun v25 => some (v25))) (some (false))) fun v26 => (Option.bind (cond
    v26 ((Option.bind (m_hindcastref07_Has F p1 (IntKind.wrap .i64 ((IntKind.wrap .i64 ((IntKind.wrap .i64 p0.X) + (IntKind.wrap .i64 p0.W))) - (1 :
    Int))) (IntKind.wrap .i64 ((IntKind.wrap .i64 ((IntKind.wrap .i64 p0.Y) + (IntKind.wrap .i64 p0.H))) - (1 : Int)))) fun v41 => some (v41))) (some
    (false))) fun v42 => some v42)))

def m_hindcastref09_four_L10 (F : Nat) (p0 : T_api_State) : Nat → Int → (T_api_Player × T_api_Player) → (List T_api_Shot) → (Int × Int) → Option ((T_api_Player × T_api_Player) × (List T_api_Shot) × (Int × Int))
  | 0, _, _, _, _ => none
  | n + 1, zd, za, zc, zb =>
      (cond (decide (zd < (p0.Shots.length : Int))) (Option.bind (getI p0.Shots zd) fun v20 => (Option.bind (m_hindcastref07_Inside F
        (T_api_Box.mk (IntKind.wrap .i32 (v20.X + v20.VX)) (IntKind.wrap .i32 (v20.Y + v20.VY)) (512 : Int) (512 : Int)) (T_api_Box.mk (0 : Int) (0 :
        Int) (65536 : Int) (32768 : Int))) fun v48 => (cond (!v48) (m_hindcastref09_four_L10 F p0 n (IntKind.wrap .i64 (zd + (1 : Int))) za
        zc zb) (cond ((IntKind.wrap .u8 ((1 : Int) - v20.Owner)) == (0 : Int)) ((Option.bind (m_hindcastref09_Box F za.1) fun v55
        => (Option.bind (m_hindcastref07_Over F (T_api_Box.mk (IntKind.wrap .i32 (v20.X + v20.VX)) (IntKind.wrap .i32 (v20.Y + v20.VY)) (512 : Int)
        (512 : Int)) v55) fun v56 => (cond v56 (Option.bind ((cond (decide (za.1.Health < (10 : Int))) (some (10 : Int)) (some
        za.1.Health))) fun ze => (cond (v20.Owner == (0 : Int)) ((cond (decide (zb.1 < (65535 : Int))) (m_hindcastref09_four_L10 F p0
        n (IntKind.wrap .i64 (zd + (1 : Int))) ((T_api_Player.mk za.1.X za.1.Y za.1.VX za.1.VY (IntKind.wrap .u8 (ze
        - (10 : Int))) za.1.Cool za.1.Face), za.2) zc ((IntKind.wrap .u16 (zb.1 + (1 : Int))), zb.2))
        (m_hindcastref09_four_L10 F p0 n (IntKind.wrap .i64 (zd + (1 : Int))) ((T_api_Player.mk za.1.X za.1.Y za.1.VX
        za.1.VY (IntKind.wrap .u8 (ze - (10 : Int))) za.1.Cool za.1.Face), za.2) zc zb))) (cond
        (v20.Owner == (1 : Int)) ((cond (decide (zb.2 < (65535 : Int))) (m_hindcastref09_four_L10 F p0 n (IntKind.wrap .i64 (zd + (1 :
        Int))) ((T_api_Player.mk za.1.X za.1.Y za.1.VX za.1.VY (IntKind.wrap .u8 (ze - (10 : Int))) za.1.Cool
        za.1.Face), za.2) zc (zb.1, (IntKind.wrap .u16 (zb.2 + (1 : Int))))) (m_hindcastref09_four_L10 F p0 n
        (IntKind.wrap .i64 (zd + (1 : Int))) ((T_api_Player.mk za.1.X za.1.Y za.1.VX za.1.VY (IntKind.wrap .u8 (ze -
        (10 : Int))) za.1.Cool za.1.Face), za.2) zc zb))) none))) (cond (decide ((0 : Int) < (IntKind.wrap .u8
        (v20.Life - (1 : Int))))) (Option.bind (appI zc ([(T_api_Shot.mk (IntKind.wrap .i32 (v20.X + v20.VX)) (IntKind.wrap .i32 (v20.Y +
        v20.VY)) v20.VX v20.VY v20.Owner (IntKind.wrap .u8 (v20.Life - (1 : Int))))] : List T_api_Shot)) fun v93 => m_hindcastref09_four_L10 F p0 n
        (IntKind.wrap .i64 (zd + (1 : Int))) za v93 zb) (m_hindcastref09_four_L10 F p0 n (IntKind.wrap .i64 (zd + (1 : Int)))
        za zc zb)))))) (cond ((IntKind.wrap .u8 ((1 : Int) - v20.Owner)) == (1 : Int)) ((Option.bind (m_hindcastref09_Box F
        za.2) fun v55 => (Option.bind (m_hindcastref07_Over F (T_api_Box.mk (IntKind.wrap .i32 (v20.X + v20.VX)) (IntKind.wrap .i32 (v20.Y +
        v20.VY)) (512 : Int) (512 : Int)) v55) fun v56 => (cond v56 (Option.bind ((cond (decide (za.2.Health < (10 : Int))) (some (10 : Int))
        (some za.2.Health))) fun ze => (cond (v20.Owner == (0 : Int)) ((cond (decide (zb.1 < (65535 : Int)))
        (m_hindcastref09_four_L10 F p0 n (IntKind.wrap .i64 (zd + (1 : Int))) (za.1, (T_api_Player.mk za.2.X za.2.Y
        za.2.VX za.2.VY (IntKind.wrap .u8 (ze - (10 : Int))) za.2.Cool za.2.Face)) zc ((IntKind.wrap .u16
        (zb.1 + (1 : Int))), zb.2)) (m_hindcastref09_four_L10 F p0 n (IntKind.wrap .i64 (zd + (1 : Int))) (za.1,
        (T_api_Player.mk za.2.X za.2.Y za.2.VX za.2.VY (IntKind.wrap .u8 (ze - (10 : Int))) za.2.Cool
        za.2.Face)) zc zb))) (cond (v20.Owner == (1 : Int)) ((cond (decide (zb.2 < (65535 : Int)))
        (m_hindcastref09_four_L10 F p0 n (IntKind.wrap .i64 (zd + (1 : Int))) (za.1, (T_api_Player.mk za.2.X za.2.Y
        za.2.VX za.2.VY (IntKind.wrap .u8 (ze - (10 : Int))) za.2.Cool za.2.Face)) zc (zb.1,
        (IntKind.wrap .u16 (zb.2 + (1 : Int))))) (m_hindcastref09_four_L10 F p0 n (IntKind.wrap .i64 (zd + (1 : Int))) (za.1,
        (T_api_Player.mk za.2.X za.2.Y za.2.VX za.2.VY (IntKind.wrap .u8 (ze - (10 : Int))) za.2.Cool
        za.2.Face)) zc zb))) none))) (cond (decide ((0 : Int) < (IntKind.wrap .u8 (v20.Life - (1 : Int))))) (Option.bind (appI
        zc ([(T_api_Shot.mk (IntKind.wrap .i32 (v20.X + v20.VX)) (IntKind.wrap .i32 (v20.Y + v20.VY)) v20.VX v20.VY v20.Owner (IntKind.wrap .u8
        (v20.Life - (1 : Int))))] : List T_api_Shot)) fun v93 => m_hindcastref09_four_L10 F p0 n (IntKind.wrap .i64 (zd + (1 : Int))) za v93
        zb) (m_hindcastref09_four_L10 F p0 n (IntKind.wrap .i64 (zd + (1 : Int))) za zc zb)))))) none))))) (some
        (za, zc, zb)))

def m_hindcastref09_four (F : Nat) (p0 : T_api_State) : Option (T_api_State) :=
  (Option.bind (m_hindcastref09_four_L10 F p0 F (0 : Int) p0.Players ([] : List T_api_Shot) p0.Score) fun (za, zb, zc) => some
    (T_api_State.mk p0.Frame p0.Seed za zb zc))

def m_hindcastref05_Stride (F : Nat) : Option (Int) :=
  some (11400714819323198485 : Int)

def m_hindcastref05_Mix (F : Nat) (p0 : Int) : Option (Int) :=
  some (bits .xor .u64 (IntKind.wrap .u64 ((bits .xor .u64 (IntKind.wrap .u64 ((bits .xor .u64 p0 (p0 / 2 ^ (min 30 (IntKind.bits .u64)))) *
    (13787848793156543929 : Int))) ((IntKind.wrap .u64 ((bits .xor .u64 p0 (p0 / 2 ^ (min 30 (IntKind.bits .u64)))) * (13787848793156543929 : Int))) /
    2 ^ (min 27 (IntKind.bits .u64)))) * (10723151780598845931 : Int))) ((IntKind.wrap .u64 ((bits .xor .u64 (IntKind.wrap .u64 ((bits .xor .u64 p0
    (p0 / 2 ^ (min 30 (IntKind.bits .u64)))) * (13787848793156543929 : Int))) ((IntKind.wrap .u64 ((bits .xor .u64 p0 (p0 / 2 ^ (min 30 (IntKind.bits
    .u64)))) * (13787848793156543929 : Int))) / 2 ^ (min 27 (IntKind.bits .u64)))) * (10723151780598845931 : Int))) / 2 ^ (min 31 (IntKind.bits
    .u64))))

def m_hindcastref05_Next (F : Nat) (p0 : Int) : Option (Int × Int) :=
  (Option.bind (m_hindcastref05_Stride F) fun v5 => (Option.bind (m_hindcastref05_Mix F (IntKind.wrap .u64 (p0 + v5))) fun v8 => some (v8,
    (IntKind.wrap .u64 (p0 + v5)))))

def m_hindcastref05_Below (F : Nat) (p0 : Int) (p1 : Int) : Option (Int × Int) :=
  (cond (decide (p1 < (1 : Int))) (some ((0 : Int), p0)) (Option.bind ((cond (decide ((2147483648 : Int) < p1)) (some (2147483648 : Int)) (some p1)))
    fun za => (Option.bind (m_hindcastref05_Next F p0) fun (zb, zc) => some ((IntKind.wrap .i64 (IntKind.wrap .u64 (Int.tdiv (IntKind.wrap
    .u64 ((IntKind.wrap .u64 (Int.tdiv zb 4294967296)) * (IntKind.wrap .u64 za))) 4294967296))), zc))))

def m_hindcastref09_five (F : Nat) (p0 : T_api_State) (p1 : Int) : Option (T_api_State) :=
  (cond (p1 == (0 : Int)) ((cond (decide ((0 : Int) < p0.Players.1.Health)) (some p0) (Option.bind (m_hindcastref05_Below F p0.Seed (61441 : Int)) fun
    (zb, ze) => (Option.bind (m_hindcastref05_Below F ze (28673 : Int)) fun (zc, zd) => (Option.bind (m_hindcastref09_Box F
    (T_api_Player.mk (IntKind.wrap .i32 zb) (IntKind.wrap .i32 zc) (0 : Int) (0 : Int) (100 : Int) p0.Players.1.Cool p0.Players.1.Face)) fun v50
    => (cond ((IntKind.wrap .i64 ((1 : Int) - p1)) == (0 : Int)) ((Option.bind (m_hindcastref09_Box F (T_api_Player.mk (IntKind.wrap .i32 zb)
    (IntKind.wrap .i32 zc) (0 : Int) (0 : Int) (100 : Int) p0.Players.1.Cool p0.Players.1.Face)) fun v56 => (Option.bind (m_hindcastref07_Over F
    v50 v56) fun v57 => (Option.bind ((cond v57 (some ((T_api_Player.mk p0.Players.1.X p0.Players.1.Y (0 : Int) (0 : Int) (100 : Int)
    p0.Players.1.Cool p0.Players.1.Face), p0.Players.2)) (some ((T_api_Player.mk (IntKind.wrap .i32 zb) (IntKind.wrap .i32 zc) (0 : Int) (0 :
    Int) (100 : Int) p0.Players.1.Cool p0.Players.1.Face), p0.Players.2)))) fun za => some (T_api_State.mk p0.Frame zd za p0.Shots
    p0.Score))))) (cond ((IntKind.wrap .i64 ((1 : Int) - p1)) == (1 : Int)) ((Option.bind (m_hindcastref09_Box F p0.Players.2) fun v56 => (Option.bind
    (m_hindcastref07_Over F v50 v56) fun v57 => (Option.bind ((cond v57 (some ((T_api_Player.mk p0.Players.1.X p0.Players.1.Y (0 : Int) (0 : Int) (100
    : Int) p0.Players.1.Cool p0.Players.1.Face), p0.Players.2)) (some ((T_api_Player.mk (IntKind.wrap .i32 zb) (IntKind.wrap .i32 zc) (0 : Int)
    (0 : Int) (100 : Int) p0.Players.1.Cool p0.Players.1.Face), p0.Players.2)))) fun za => some (T_api_State.mk p0.Frame zd za
    p0.Shots p0.Score))))) none))))))) (cond (p1 == (1 : Int)) ((cond (decide ((0 : Int) < p0.Players.2.Health)) (some p0) (Option.bind
    (m_hindcastref05_Below F p0.Seed (61441 : Int)) fun (zb, ze) => (Option.bind (m_hindcastref05_Below F ze (28673 : Int)) fun (zc,
    zd) => (Option.bind (m_hindcastref09_Box F (T_api_Player.mk (IntKind.wrap .i32 zb) (IntKind.wrap .i32 zc) (0 : Int) (0 : Int) (100 : Int)
    p0.Players.2.Cool p0.Players.2.Face)) fun v50 => (cond ((IntKind.wrap .i64 ((1 : Int) - p1)) == (0 : Int)) ((Option.bind (m_hindcastref09_Box F
    p0.Players.1) fun v56 => (Option.bind (m_hindcastref07_Over F v50 v56) fun v57 => (Option.bind ((cond v57 (some (p0.Players.1, (T_api_Player.mk
    p0.Players.2.X p0.Players.2.Y (0 : Int) (0 : Int) (100 : Int) p0.Players.2.Cool p0.Players.2.Face))) (some (p0.Players.1, (T_api_Player.mk
    (IntKind.wrap .i32 zb) (IntKind.wrap .i32 zc) (0 : Int) (0 : Int) (100 : Int) p0.Players.2.Cool p0.Players.2.Face))))) fun za => some
    (T_api_State.mk p0.Frame zd za p0.Shots p0.Score))))) (cond ((IntKind.wrap .i64 ((1 : Int) - p1)) == (1 : Int)) ((Option.bind
    (m_hindcastref09_Box F (T_api_Player.mk (IntKind.wrap .i32 zb) (IntKind.wrap .i32 zc) (0 : Int) (0 : Int) (100 : Int) p0.Players.2.Cool
    p0.Players.2.Face)) fun v56 => (Option.bind (m_hindcastref07_Over F v50 v56) fun v57 => (Option.bind ((cond v57 (some (p0.Players.1,
    (T_api_Player.mk p0.Players.2.X p0.Players.2.Y (0 : Int) (0 : Int) (100 : Int) p0.Players.2.Cool p0.Players.2.Face))) (some (p0.Players.1,
    (T_api_Player.mk (IntKind.wrap .i32 zb) (IntKind.wrap .i32 zc) (0 : Int) (0 : Int) (100 : Int) p0.Players.2.Cool p0.Players.2.Face))))) fun
    za => some (T_api_State.mk p0.Frame zd za p0.Shots p0.Score))))) none))))))) none))

def m_hindcastref09_five_o0 (F : Nat) (p0 : T_api_State) (p1 : Int) : Option (T_api_State) :=
  (cond (p1 == (0 : Int)) ((cond (decide ((0 : Int) < p0.Players.1.Health)) (some p0) (Option.bind (m_hindcastref05_Below F p0.Seed (61441 : Int)) fun
    (zb, ze) => (Option.bind (m_hindcastref05_Below F ze (28673 : Int)) fun (zc, zd) => (Option.bind (m_hindcastref09_Box F
    (T_api_Player.mk (IntKind.wrap .i32 zb) (IntKind.wrap .i32 zc) (0 : Int) (0 : Int) (100 : Int) p0.Players.1.Cool p0.Players.1.Face)) fun v50
    => (cond ((IntKind.wrap .i64 ((1 : Int) - p1)) == (0 : Int)) ((Option.bind (m_hindcastref09_Box F (T_api_Player.mk (IntKind.wrap .i32 zb)
    (IntKind.wrap .i32 zc) (0 : Int) (0 : Int) (100 : Int) p0.Players.1.Cool p0.Players.1.Face)) fun v56 => (Option.bind (m_hindcastref07_Over F
    v50 v56) fun v57 => (Option.bind ((cond v57 (some ((T_api_Player.mk p0.Players.1.X p0.Players.1.Y (0 : Int) (0 : Int) (100 : Int)
    p0.Players.1.Cool p0.Players.1.Face), p0.Players.2)) (some ((T_api_Player.mk (IntKind.wrap .i32 zb) (IntKind.wrap .i32 zc) (0 : Int) (0 :
    Int) (100 : Int) p0.Players.1.Cool p0.Players.1.Face), p0.Players.2)))) fun za => some (T_api_State.mk p0.Frame zd za p0.Shots
    p0.Score))))) (cond ((IntKind.wrap .i64 ((1 : Int) - p1)) == (1 : Int)) ((Option.bind (m_hindcastref09_Box F p0.Players.2) fun v56 => (Option.bind
    (m_hindcastref07_Over F v50 v56) fun v57 => (Option.bind ((cond v57 (some ((T_api_Player.mk p0.Players.1.X p0.Players.1.Y (0 : Int) (0 : Int) (100
    : Int) p0.Players.1.Cool p0.Players.1.Face), p0.Players.2)) (some ((T_api_Player.mk (IntKind.wrap .i32 zb) (IntKind.wrap .i32 zc) (0 : Int)
    (0 : Int) (100 : Int) p0.Players.1.Cool p0.Players.1.Face), p0.Players.2)))) fun za => some (T_api_State.mk p0.Frame zd za
    p0.Shots p0.Score))))) none))))))) (cond (p1 == (1 : Int)) ((cond (decide ((0 : Int) < p0.Players.2.Health)) (some p0) (Option.bind
    (m_hindcastref05_Below F p0.Seed (61441 : Int)) fun (zb, ze) => (Option.bind (m_hindcastref05_Below F ze (28673 : Int)) fun (zc,
    zd) => (Option.bind (m_hindcastref09_Box F (T_api_Player.mk (IntKind.wrap .i32 zb) (IntKind.wrap .i32 zc) (0 : Int) (0 : Int) (100 : Int)
    p0.Players.2.Cool p0.Players.2.Face)) fun v50 => (cond ((IntKind.wrap .i64 ((1 : Int) - p1)) == (0 : Int)) ((Option.bind (m_hindcastref09_Box F
    p0.Players.1) fun v56 => (Option.bind (m_hindcastref07_Over F v50 v56) fun v57 => (Option.bind ((cond v57 (some (p0.Players.1, (T_api_Player.mk
    p0.Players.2.X p0.Players.2.Y (0 : Int) (0 : Int) (100 : Int) p0.Players.2.Cool p0.Players.2.Face))) (some (p0.Players.1, (T_api_Player.mk
    (IntKind.wrap .i32 zb) (IntKind.wrap .i32 zc) (0 : Int) (0 : Int) (100 : Int) p0.Players.2.Cool p0.Players.2.Face))))) fun za => some
    (T_api_State.mk p0.Frame zd za p0.Shots p0.Score))))) (cond ((IntKind.wrap .i64 ((1 : Int) - p1)) == (1 : Int)) ((Option.bind
    (m_hindcastref09_Box F (T_api_Player.mk (IntKind.wrap .i32 zb) (IntKind.wrap .i32 zc) (0 : Int) (0 : Int) (100 : Int) p0.Players.2.Cool
    p0.Players.2.Face)) fun v56 => (Option.bind (m_hindcastref07_Over F v50 v56) fun v57 => (Option.bind ((cond v57 (some (p0.Players.1,
    (T_api_Player.mk p0.Players.2.X p0.Players.2.Y (0 : Int) (0 : Int) (100 : Int) p0.Players.2.Cool p0.Players.2.Face))) (some (p0.Players.1,
    (T_api_Player.mk (IntKind.wrap .i32 zb) (IntKind.wrap .i32 zc) (0 : Int) (0 : Int) (100 : Int) p0.Players.2.Cool p0.Players.2.Face))))) fun
    za => some (T_api_State.mk p0.Frame zd za p0.Shots p0.Score))))) none))))))) none))

def m_hindcastref09_Step (F : Nat) (p0 : T_api_State) (p1 : (Int × Int)) : Option (T_api_State) :=
  (Option.bind (m_hindcastref08_Copy F p0) fun v6 => (Option.bind (m_hindcastref08_Check F v6) fun v8 => (Option.bind (cond (v8 != (0 : Int)) (some
    (true)) ((Option.bind (m_hindcastref06_Legal F p1.1) fun v13 => some ((!v13))))) fun v15 => (Option.bind (cond v15 (some (true)) ((Option.bind
    (m_hindcastref06_Legal F p1.2) fun v19 => some ((!v19))))) fun v21 => (cond v21 (some v6) (Option.bind (m_hindcastref09_one F v6.Players.1 p1.1)
    fun v28 => (Option.bind (m_hindcastref09_one F v6.Players.2 p1.2) fun v36 => (Option.bind (m_hindcastref09_two_o0 F (T_api_State.mk v6.Frame
    v6.Seed (v28, v36) v6.Shots v6.Score) p1) fun v41 => (Option.bind (m_hindcastref09_three_o0 F v41) fun v43 => (Option.bind (m_hindcastref09_four F
    v43) fun v45 => (Option.bind (m_hindcastref09_five_o0 F v45 (0 : Int)) fun v47 => (Option.bind (m_hindcastref09_five_o0 F v47 (1 : Int)) fun v49
    => some (T_api_State.mk (IntKind.wrap .u64 (v49.Frame + (1 : Int))) v49.Seed v49.Players v49.Shots v49.Score)))))))))))))

def m_hindcastref24_Queue_Drop (F : Nat) (p0 : T_hindcastref24_Queue) (p1 : Int) : Option (T_hindcastref24_Queue) :=
  (Option.bind (m_hindcastref24_Queue_Known F p0) fun v6 => (Option.bind ((cond (decide (v6 < p1)) (Option.bind (m_hindcastref24_Queue_Known F p0) fun
    v9 => some v9) (some p1))) fun za => (cond (decide (p0.First < za)) (some (T_hindcastref24_Queue.mk p0.Begin za p0.L)) (some p0))))

def m_hindcastref26_Engine_Confirm (F : Nat) (p0 : T_hindcastref26_Engine) (p0_4 : T_hindcastref24_Queue) (p1 : Int) : Option (T_hindcastref26_Engine × T_hindcastref24_Queue × (Int × Int) × Bool) :=
  (Option.bind (m_hindcastref26_Engine_Next F p0 p0_4) fun (za, zc) => (Option.bind (cond (decide (p1 ≤ p0.Sure.Frame)) (some (true)) (some
    ((!zc)))) fun v23 => (cond v23 (some (p0, p0_4, ((0 : Int), (0 : Int)), false)) (Option.bind (m_hindcastref09_Step F p0.Sure za) fun v31 =>
    (Option.bind (cutI p0.Own (1 : Int) (p0.Own.length : Int)) fun v39 => (Option.bind (m_hindcastref24_Queue_Drop F p0_4 v31.Frame) fun zb => some
    ((T_hindcastref26_Engine.mk p0.Player p0.Window v31 v39), zb, za, true)))))))

def m_hindcastref11_History_Count (F : Nat) (p0 : T_hindcastref11_History) : Option (Int) :=
  some (IntKind.wrap .u64 (p0.From + (IntKind.wrap .u64 (p0.L.length : Int))))

def m_hindcastref11_History_Add (F : Nat) (p0 : T_hindcastref11_History) (p1 : (Int × Int)) : Option (T_hindcastref11_History × Int) :=
  (Option.bind (cond (decide ((63 : Int) < p1.1)) (some (true)) (some ((decide ((63 : Int) < p1.2))))) fun v13 => (cond v13 (some (p0, (2 : Int)))
    (Option.bind (cond ((p0.L.length : Int) == p0.Most) (some (true)) ((Option.bind (m_hindcastref11_History_Count F p0) fun v26 => some ((v26 ==
    (18446744073709551615 : Int)))))) fun v28 => (cond v28 (some (p0, (7 : Int))) (Option.bind (appI ([] : List (Int × Int)) p0.L) fun v34 =>
    (Option.bind (appI v34 ([p1] : List (Int × Int))) fun v39 => some ((T_hindcastref11_History.mk p0.From p0.Most v39), (0 : Int))))))))

def m_hindcastref11_History_Drop_L1 (F : Nat) (p1 : Int) : Nat → Int → (List (Int × Int)) → Option (Int × (List (Int × Int)))
  | 0, _, _ => none
  | n + 1, zb, za =>
      (Option.bind (cond (decide ((0 : Int) < (za.length : Int))) (some ((decide (zb < p1)))) (some (false))) fun v17 => (cond v17
        (Option.bind (cutI za (1 : Int) (za.length : Int)) fun v23 => m_hindcastref11_History_Drop_L1 F p1 n (IntKind.wrap .u64 (zb
        + (1 : Int))) v23) (some (zb, za))))

def m_hindcastref11_History_Drop (F : Nat) (p0 : T_hindcastref11_History) (p1 : Int) : Option (T_hindcastref11_History) :=
  (Option.bind (m_hindcastref11_History_Drop_L1 F p1 F p0.From p0.L) fun (za, zb) => some (T_hindcastref11_History.mk za p0.Most
    zb))

def m_hindcastref11_History_At (F : Nat) (p0 : T_hindcastref11_History) (p1 : Int) : Option ((Int × Int) × Bool) :=
  (Option.bind (cond (decide (p1 < p0.From)) (some (true)) ((Option.bind (m_hindcastref11_History_Count F p0) fun v15 => some ((decide (v15 ≤ p1))))))
    fun v17 => (cond v17 (some (((0 : Int), (0 : Int)), false)) (Option.bind (getI p0.L (IntKind.wrap .u64 (p1 - p0.From))) fun v29 => some (v29,
    true))))

def m_hindcastref28_Plan_L6 (F : Nat) (p0 : T_hindcastref11_History) (p1 : Int) : Nat → Int → Option (Int)
  | 0, _ => none
  | n + 1, za =>
      (cond (decide (za < (32 : Int))) (Option.bind (m_hindcastref11_History_At F p0 (IntKind.wrap .u64 (p1 + (IntKind.wrap .u64 za)))) fun
        (zc, zb) => (cond (!zb) (some za) (m_hindcastref28_Plan_L6 F p0 p1 n (IntKind.wrap .i64 (za + (1 : Int)))))) (some za))

def m_hindcastref28_Plan (F : Nat) (p0 : T_hindcastref11_History) (p1 : Int) : Option (Int × Int) :=
  (Option.bind (m_hindcastref28_Plan_L6 F p0 p1 F (0 : Int)) fun za => (cond (za == (0 : Int)) (some ((0 : Int), (0 : Int))) (some (p1, za))))

def m_hindcastref28_bad (F : Nat) (p0 : Int) (p1 : Int) (p2 : Int) : Option (Int) :=
  (Option.bind (cond (decide ((1 : Int) < p0)) (some (true)) (some ((decide ((IntKind.wrap .u64 (p1 + (IntKind.wrap .u64 p2))) < p1))))) fun v16 =>
    (cond v16 (some (2 : Int)) (some (0 : Int))))

def m_hindcastref26_Engine_T (F : Nat) (p0 : T_hindcastref26_Engine) (p0_4 : T_hindcastref24_Queue) : Option (Int) :=
  some (IntKind.wrap .u64 (p0.Sure.Frame + (IntKind.wrap .u64 (p0.Own.length : Int))))

def m_hindcastref28_Pairs_L22 (F : Nat) (p0 : T_hindcastref26_Engine) (p1 : T_hindcastref11_History) (p2 : Int) (p3 : Int) (p4 : (List (Int × Int))) : Nat → Int → Int → Int → (List Int) → Option ((Int × Int × Int × Int × (List Int)) ⊕ (T_hindcastref24_Queue × Int × Int))
  | 0, _, _, _, _ => none
  | n + 1, za, zb, zc, zd =>
      (cond (decide (za < (p4.length : Int))) (cond (decide ((IntKind.wrap .u64 (p3 + (IntKind.wrap .u64 za))) < p0.Sure.Frame)) (Option.bind
        (m_hindcastref11_History_At F p1 (IntKind.wrap .u64 (p3 + (IntKind.wrap .u64 za)))) fun (zf, zg) => (Option.bind (cond zg
        ((Option.bind (getI p4 za) fun v57 => some ((!((zf.1 == v57.1) && (zf.2 == v57.2)))))) (some (false))) fun v60 => (cond v60 (some
        (.inr ((T_hindcastref24_Queue.mk zb zc zd), za, (14 : Int)))) (m_hindcastref28_Pairs_L22 F p0 p1 p2 p3 p4 n
        (IntKind.wrap .i64 (za + (1 : Int))) zb zc zd)))) (Option.bind (m_hindcastref26_Engine_T F p0
        (T_hindcastref24_Queue.mk zb zc zd)) fun v64 => (cond (decide (v64 ≤ (IntKind.wrap .u64 (p3 + (IntKind.wrap .u64
        za))))) (some (.inr ((T_hindcastref24_Queue.mk zb zc zd), za, (11 : Int)))) (Option.bind (getI p0.Own
        (IntKind.wrap .u64 ((IntKind.wrap .u64 (p3 + (IntKind.wrap .u64 za))) - p0.Sure.Frame))) fun v78 => (Option.bind (getI p4 za) fun v83
        => (cond (p2 == (0 : Int)) ((cond (v78 != v83.1) (some (.inr ((T_hindcastref24_Queue.mk zb zc zd), za, (14 :
        Int)))) (Option.bind (getI p4 za) fun v94 => (cond ((IntKind.wrap .u8 ((1 : Int) - p2)) == (0 : Int)) ((Option.bind
        (m_hindcastref26_Engine_Remote F p0 (T_hindcastref24_Queue.mk zb zc zd) (IntKind.wrap .u64 (p3 + (IntKind.wrap .u64
        za))) v94.1) fun (ze, v97) => (cond (v97 != (0 : Int)) (some (.inr (ze, za, v97))) (m_hindcastref28_Pairs_L22 F p0 p1 p2 p3 p4 n
        (IntKind.wrap .i64 (za + (1 : Int))) ze.Begin ze.First ze.L)))) (cond ((IntKind.wrap .u8 ((1 : Int) - p2)) == (1 : Int))
        ((Option.bind (m_hindcastref26_Engine_Remote F p0 (T_hindcastref24_Queue.mk zb zc zd) (IntKind.wrap .u64 (p3 +
        (IntKind.wrap .u64 za))) v94.2) fun (ze, v97) => (cond (v97 != (0 : Int)) (some (.inr (ze, za, v97))) (m_hindcastref28_Pairs_L22
        F p0 p1 p2 p3 p4 n (IntKind.wrap .i64 (za + (1 : Int))) ze.Begin ze.First ze.L)))) none))))) (cond (p2 == (1 : Int)) ((cond (v78
        != v83.2) (some (.inr ((T_hindcastref24_Queue.mk zb zc zd), za, (14 : Int)))) (Option.bind (getI p4 za) fun
        v94 => (cond ((IntKind.wrap .u8 ((1 : Int) - p2)) == (0 : Int)) ((Option.bind (m_hindcastref26_Engine_Remote F p0 (T_hindcastref24_Queue.mk
        zb zc zd) (IntKind.wrap .u64 (p3 + (IntKind.wrap .u64 za))) v94.1) fun (ze, v97) => (cond (v97 != (0 : Int))
        (some (.inr (ze, za, v97))) (m_hindcastref28_Pairs_L22 F p0 p1 p2 p3 p4 n (IntKind.wrap .i64 (za + (1 : Int))) ze.Begin
        ze.First ze.L)))) (cond ((IntKind.wrap .u8 ((1 : Int) - p2)) == (1 : Int)) ((Option.bind (m_hindcastref26_Engine_Remote F p0
        (T_hindcastref24_Queue.mk zb zc zd) (IntKind.wrap .u64 (p3 + (IntKind.wrap .u64 za))) v94.2) fun (ze, v97)
        => (cond (v97 != (0 : Int)) (some (.inr (ze, za, v97))) (m_hindcastref28_Pairs_L22 F p0 p1 p2 p3 p4 n (IntKind.wrap .i64 (za + (1 :
        Int))) ze.Begin ze.First ze.L)))) none))))) none))))))) (some (.inl ((0 : Int), (0 : Int), zb, zc, zd))))

def m_hindcastref28_Pairs (F : Nat) (p0 : T_hindcastref26_Engine) (p0_4 : T_hindcastref24_Queue) (p1 : T_hindcastref11_History) (p2 : Int) (p3 : Int) (p4 : (List (Int × Int))) : Option (T_hindcastref24_Queue × Int × Int) :=
  (Option.bind (m_hindcastref28_bad F p2 p3 (p4.length : Int)) fun v27 => (cond (v27 != (0 : Int)) (some (p0_4, (0 : Int), (2 : Int))) (Option.bind
    (m_hindcastref28_Pairs_L22 F p0 p1 p2 p3 p4 F (0 : Int) p0_4.Begin p0_4.First p0_4.L) (orE (fun (zd, ze, za, zb,
    zc) => some ((T_hindcastref24_Queue.mk za zb zc), (p4.length : Int), (0 : Int))) (fun r23 => some r23)))))

def m_hindcastref06_Same_L14 (F : Nat) (p0 : (List Int)) (p1 : (List Int)) : Nat → Int → Option ((Bool) ⊕ (Bool))
  | 0, _ => none
  | n + 1, za =>
      (cond (decide (za < (p0.length : Int))) (Option.bind (getI p0 za) fun v19 => (Option.bind (getI p1 za) fun v23 => (cond (v19 != v23)
        (some (.inr false)) (m_hindcastref06_Same_L14 F p0 p1 n (IntKind.wrap .i64 (za + (1 : Int))))))) (some (.inl false)))

def m_hindcastref06_Same (F : Nat) (p0 : (List Int)) (p1 : (List Int)) : Option (Bool) :=
  (cond ((p0.length : Int) != (p1.length : Int)) (some false) (Option.bind (m_hindcastref06_Same_L14 F p0 p1 F (0 : Int)) (orE (fun za => some
    true) (fun r15 => some r15))))

def m_ring_Ring_Newest_L11 (F : Nat) (v16 : (List T_ring_place)) : Nat → Int → Int → Int → (T_api_Player × T_api_Player) → (List T_api_Shot) → (Int × Int) → Bool → Option (Int × Int × (T_api_Player × T_api_Player) × (List T_api_Shot) × (Int × Int) × Bool)
  | 0, _, _, _, _, _, _, _ => none
  | n + 1, zg, za, zc, zd, ze, zf, zb =>
      (cond (decide (zg < (v16.length : Int))) (Option.bind (getI v16 zg) fun v20 => (Option.bind (cond v20.is_ ((Option.bind (cond
        (!zb) (some (true)) (some ((decide (za < v20.s.Frame))))) fun v36 => some (v36))) (some (false))) fun v37 => (cond v37
        (m_ring_Ring_Newest_L11 F v16 n (IntKind.wrap .i64 (zg + (1 : Int))) v20.s.Frame v20.s.Seed v20.s.Players v20.s.Shots v20.s.Score v20.is_)
        (m_ring_Ring_Newest_L11 F v16 n (IntKind.wrap .i64 (zg + (1 : Int))) za zc zd ze zf
        zb)))) (some (za, zc, zd, ze, zf, zb)))

def m_ring_Ring_Newest (F : Nat) (p0 : T_ring_Ring) : Option (T_api_State × Bool) :=
  (Option.bind (m_ring_Ring_is F p0) fun v8 => (Option.bind ((cond v8 (Option.bind (cutI p0.places.1 0 p0.size) fun v16 => (Option.bind
    (m_ring_Ring_Newest_L11 F v16 F (0 : Int) (0 : Int) (0 : Int) ((T_api_Player.mk (0 : Int) (0 : Int) (0 : Int) (0 : Int) (0 : Int) (0 : Int) (0 :
    Int)), (T_api_Player.mk (0 : Int) (0 : Int) (0 : Int) (0 : Int) (0 : Int) (0 : Int) (0 : Int))) ([] : List T_api_Shot) ((0 : Int), (0 : Int))
    false) fun (za, zb, zc, zd, ze, zk) => some (za, zb, zc,
    zd, ze, zk))) (some ((0 : Int), (0 : Int), ((T_api_Player.mk (0 : Int) (0 : Int) (0 : Int) (0 : Int) (0 : Int) (0 : Int)
    (0 : Int)), (T_api_Player.mk (0 : Int) (0 : Int) (0 : Int) (0 : Int) (0 : Int) (0 : Int) (0 : Int))), ([] : List T_api_Shot), ((0 : Int), (0 :
    Int)), false)))) fun (zf, zg, zh, zi, zj, zl) => (Option.bind (m_ring_told F (T_api_State.mk
    zf zg zh zi zj)) fun v42 => some (v42, zl))))

def m_rollback_Engine_Shown_L16 (F : Nat) (p0 : T_rollback_Engine) (p0_4 : T_queue_Queue) : Nat → Int → (Arr T_ring_place 14) → Int → Int → (T_api_Player × T_api_Player) → (List T_api_Shot) → (Int × Int) → Int → Int → (T_api_Player × T_api_Player) → (List T_api_Shot) → (Int × Int) → Option (Int × (Arr T_ring_place 14) × Int × Int × (T_api_Player × T_api_Player) × (List T_api_Shot) × (Int × Int) × Int × Int × (T_api_Player × T_api_Player) × (List T_api_Shot) × (Int × Int))
  | 0, _, _, _, _, _, _, _, _, _, _, _, _ => none
  | n + 1, zb, zc, zh, zj, zk, zl, zm, za, zd, ze, zf, zg =>
      (Option.bind (m_rollback_Engine_T F p0 p0_4 (T_ring_Ring.mk zb zc)) fun v24 => (cond (decide (zh < v24)) (Option.bind
        (m_rollback_Engine_pair F p0 p0_4 (T_ring_Ring.mk zb zc) za) fun v200007 => (Option.bind (m_step_Step F
        (T_api_State.mk za zd ze zf zg) v200007) fun v200008 => (Option.bind
        (m_ring_Ring_Put F (T_ring_Ring.mk zb zc) v200008) fun (zi, v200014) => m_rollback_Engine_Shown_L16 F p0 p0_4 n
        zi.size zi.places v200008.Frame v200008.Seed v200008.Players v200008.Shots v200008.Score v200008.Frame v200008.Seed
        v200008.Players v200008.Shots v200008.Score))) (some (zb, zc, zh, zj, zk, zl, zm,
        za, zd, ze, zf, zg))))

def m_rollback_Engine_Shown (F : Nat) (p0 : T_rollback_Engine) (p0_4 : T_queue_Queue) (p0_5 : T_ring_Ring) : Option (T_ring_Ring × T_api_State) :=
  (Option.bind (m_rollback_Engine_is F p0 p0_4 p0_5) fun v7 => (cond (!v7) (some (p0_5, (T_api_State.mk (0 : Int) (0 : Int) ((T_api_Player.mk (0 :
    Int) (0 : Int) (0 : Int) (0 : Int) (0 : Int) (0 : Int) (0 : Int)), (T_api_Player.mk (0 : Int) (0 : Int) (0 : Int) (0 : Int) (0 : Int) (0 : Int) (0
    : Int))) ([] : List T_api_Shot) ((0 : Int), (0 : Int))))) (Option.bind (m_ring_Ring_Newest F p0_5) fun (za, zn) => (Option.bind
    (m_rollback_Engine_Shown_L16 F p0 p0_4 F p0_5.size p0_5.places za.Frame za.Seed za.Players za.Shots za.Score za.Frame za.Seed
    za.Players za.Shots za.Score) fun (zb, zc, zd, ze, zf, zg, zh, zi,
    zj, zk, zl, zm) => (Option.bind (m_state_Copy F (T_api_State.mk zd ze zf
    zg zh)) fun v29 => some ((T_ring_Ring.mk zb zc), v29))))))

def m_hindcastref26_Engine_Shown_L8 (F : Nat) (p0 : T_hindcastref26_Engine) (p0_4 : T_hindcastref24_Queue) : Nat → Int → Int → Int → (T_api_Player × T_api_Player) → (List T_api_Shot) → (Int × Int) → Option (Int × Int × (T_api_Player × T_api_Player) × (List T_api_Shot) × (Int × Int))
  | 0, _, _, _, _, _, _ => none
  | n + 1, zf, za, zb, zc, zd, ze =>
      (Option.bind (m_hindcastref26_Engine_T F p0 p0_4) fun v17 => (cond (decide (zf < v17)) (Option.bind (m_hindcastref26_Engine_pair F p0 p0_4
        zf) fun v24 => (Option.bind (m_hindcastref09_Step F (T_api_State.mk za zb zc zd ze) v24) fun v25 =>
        m_hindcastref26_Engine_Shown_L8 F p0 p0_4 n (IntKind.wrap .u64 (zf + (1 : Int))) v25.Frame v25.Seed v25.Players v25.Shots v25.Score)) (some
        (za, zb, zc, zd, ze))))

def m_hindcastref26_Engine_Shown (F : Nat) (p0 : T_hindcastref26_Engine) (p0_4 : T_hindcastref24_Queue) : Option (T_api_State) :=
  (Option.bind (m_hindcastref08_Copy F p0.Sure) fun v9 => (Option.bind (m_hindcastref26_Engine_Shown_L8 F p0 p0_4 F p0.Sure.Frame v9.Frame v9.Seed
    v9.Players v9.Shots v9.Score) fun (za, zb, zc, zd, ze) => some (T_api_State.mk za zb zc zd
    ze)))

def m_hindcastref08_Same_L14 (F : Nat) (p0 : T_api_State) (p1 : T_api_State) : Nat → Int → Option ((Bool) ⊕ (Bool))
  | 0, _ => none
  | n + 1, za =>
      (cond (decide (za < (p0.Shots.length : Int))) (Option.bind (getI p0.Shots za) fun v62 => (Option.bind (getI p1.Shots za) fun v67 =>
        (cond (!((v62.X == v67.X) && ((v62.Y == v67.Y) && ((v62.VX == v67.VX) && ((v62.VY == v67.VY) && ((v62.Owner == v67.Owner) && (v62.Life ==
        v67.Life))))))) (some (.inr false)) (m_hindcastref08_Same_L14 F p0 p1 n (IntKind.wrap .i64 (za + (1 : Int))))))) (some (.inl false)))

def m_hindcastref08_Same (F : Nat) (p0 : T_api_State) (p1 : T_api_State) : Option (Bool) :=
  (Option.bind (cond (p0.Frame != p1.Frame) (some (true)) (some ((p0.Seed != p1.Seed)))) fun v17 => (Option.bind (cond v17 (some (true)) (some
    ((!((p0.Players.1.X == p1.Players.1.X) && ((p0.Players.1.Y == p1.Players.1.Y) && ((p0.Players.1.VX == p1.Players.1.VX) && ((p0.Players.1.VY ==
    p1.Players.1.VY) && ((p0.Players.1.Health == p1.Players.1.Health) && ((p0.Players.1.Cool == p1.Players.1.Cool) && (p0.Players.1.Face ==
    p1.Players.1.Face))))))))))) fun v26 => (Option.bind (cond v26 (some (true)) (some ((!((p0.Players.2.X == p1.Players.2.X) && ((p0.Players.2.Y ==
    p1.Players.2.Y) && ((p0.Players.2.VX == p1.Players.2.VX) && ((p0.Players.2.VY == p1.Players.2.VY) && ((p0.Players.2.Health == p1.Players.2.Health)
    && ((p0.Players.2.Cool == p1.Players.2.Cool) && (p0.Players.2.Face == p1.Players.2.Face))))))))))) fun v35 => (Option.bind (cond v35 (some (true))
    (some ((!((p0.Score.1 == p1.Score.1) && (p0.Score.2 == p1.Score.2)))))) fun v42 => (Option.bind (cond v42 (some (true)) (some (((p0.Shots.length :
    Int) != (p1.Shots.length : Int))))) fun v51 => (cond v51 (some false) (Option.bind (m_hindcastref08_Same_L14 F p0 p1 F (0 : Int)) (orE (fun za
    => some true) (fun r15 => some r15)))))))))

def m_hindcastlaw28_alike (F : Nat) (p0 : T_rollback_Engine) (p0_4 : T_queue_Queue) (p0_5 : T_ring_Ring) (p1 : T_hindcastref26_Engine) (p1_4 : T_hindcastref24_Queue) : Option (T_ring_Ring × Bool) :=
  (Option.bind (m_rollback_Engine_Next F p0 p0_4 p0_5) fun (zd, zf) => (Option.bind (m_hindcastref26_Engine_Next F p1 p1_4) fun (ze, zg)
    => (Option.bind (cond ((zd.1 == ze.1) && (zd.2 == ze.2)) (some ((zf == zg))) (some (false))) fun v26 => (Option.bind (cond v26
    ((Option.bind (m_rollback_Engine_C F p0 p0_4 p0_5) fun v29 => some ((v29 == p1.Sure.Frame)))) (some (false))) fun v36 => (Option.bind (cond v36
    ((Option.bind (m_rollback_Engine_T F p0 p0_4 p0_5) fun v39 => (Option.bind (m_hindcastref26_Engine_T F p1 p1_4) fun v41 => some ((v39 == v41)))))
    (some (false))) fun v43 => (Option.bind (cond v43 ((Option.bind (m_rollback_Engine_Known F p0 p0_4 p0_5) fun v46 => (Option.bind
    (m_hindcastref24_Queue_Known F p1_4) fun v51 => some ((v46 == v51))))) (some (false))) fun v53 => (Option.bind (cond v53 ((Option.bind
    (m_rollback_Engine_Own F p0 p0_4 p0_5) fun v56 => (Option.bind (m_hindcastref06_Same F v56 p1.Own) fun v61 => some (v61)))) (some (false))) fun
    v62 => (Option.bind (cond v62 ((Option.bind (m_rollback_Engine_Shown F p0 p0_4 p0_5) fun (zc, v65) => (Option.bind
    (m_hindcastref26_Engine_Shown F p1 p1_4) fun v67 => (Option.bind (m_hindcastref08_Same F v65 v67) fun v68 => some (v68, zc.size,
    zc.places))))) (some (false, p0_5.size, p0_5.places))) fun (v69, za, zb) => some ((T_ring_Ring.mk za zb),
    v69)))))))))

def m_backfill_Inputs_1 (F : Nat) (p0 : Int) (p1 : Int) (p2 : Unit) (p2_o : T_rollback_Engine) (p2_o_4 : T_queue_Queue) (p2_o_5 : T_ring_Ring) (p3 : Unit) (p3_o : T_fold_History) (p4 : Int) : Option (T_queue_Queue × T_ring_Ring × Int) :=
  (Option.bind (m_rollback_Engine_C F p2_o p2_o_4 p2_o_5) fun v12 => (cond (decide (v12 ≤ p0)) (Option.bind (m_rollback_Engine_Remote F p2_o p2_o_4
    p2_o_5 p0 p1) fun (zb, zc, v17) => some (zb, zc, v17)) (Option.bind (m_fold_History_At F p3_o p0) fun (za, zd) => (Option.bind
    (cond zd ((cond ((IntKind.wrap .u8 ((1 : Int) - p4)) == (0 : Int)) (some ((za.1 != p1))) (cond ((IntKind.wrap .u8 ((1 : Int) - p4)) == (1 :
    Int)) (some ((za.2 != p1))) none))) (some (false))) fun v32 => (cond v32 (some (p2_o_4, p2_o_5, (14 : Int))) (some (p2_o_4, p2_o_5, (0 :
    Int))))))))

def m_backfill_Inputs_L100021 (F : Nat) (p0 : T_rollback_Engine) (p1 : T_fold_History) (p2 : Int) (p3 : Int) (p4 : (List Int)) : Nat → Int → Int → Int → (List Int) → Int → Int → (Arr T_ring_place 14) → Option ((Int × Int × (List Int) × Int × Int × (Arr T_ring_place 14)) ⊕ (Int × Int × Int × (List Int) × Int × Int × (Arr T_ring_place 14)))
  | 0, _, _, _, _, _, _, _ => none
  | n + 1, za, zc, zd, ze, zf, zg, zh =>
      (cond (decide (zc < (p4.length : Int))) (Option.bind (getI p4 zc) fun v100039 => (Option.bind (m_backfill_Inputs_1 F
        (IntKind.wrap .u64 (p3 + (IntKind.wrap .u64 za))) v100039 () p0 (T_queue_Queue.mk zd ze zf)
        (T_ring_Ring.mk zg zh) () p1 p2) fun (zb, zi, v100047) => (cond (v100047 != (0 : Int)) (some (.inr
        (za, v100047, zb.first_, zb.l, zb.last, zi.size, zi.places))) (m_backfill_Inputs_L100021 F p0
        p1 p2 p3 p4 n (IntKind.wrap .i64 (za + (1 : Int))) (IntKind.wrap .i64 (zc + (1 : Int))) zb.first_ zb.l
        zb.last zi.size zi.places)))) (some (.inl (za, zd, ze, zf,
        zg, zh))))

def m_backfill_Inputs (F : Nat) (p0 : T_rollback_Engine) (p0_4 : T_queue_Queue) (p0_5 : T_ring_Ring) (p1 : T_fold_History) (p2 : Int) (p3 : Int) (p4 : (List Int)) : Option (T_queue_Queue × T_ring_Ring × Int × Int) :=
  (Option.bind (cond (decide ((1 : Int) < p2)) (some (true)) (some ((decide ((IntKind.wrap .u64 ((18446744073709551615 : Int) - p3)) < (IntKind.wrap
    .u64 (p4.length : Int))))))) fun v100034 => (cond v100034 (some (p0_4, p0_5, (0 : Int), (2 : Int))) (Option.bind (m_backfill_Inputs_L100021 F p0
    p1 p2 p3 p4 F (0 : Int) (0 : Int) p0_4.first_ p0_4.l p0_4.last p0_5.size p0_5.places) (orE (fun (zf, za, zb,
    zc, zd, ze) => some ((T_queue_Queue.mk za zb zc), (T_ring_Ring.mk
    zd ze), zf, (0 : Int))) (fun (zf, zg, za, zb,
    zc, zd, ze) => some ((T_queue_Queue.mk za zb zc), (T_ring_Ring.mk
    zd ze), zf, zg))))))

def m_hindcastref28_Inputs_L22 (F : Nat) (p0 : T_hindcastref26_Engine) (p1 : T_hindcastref11_History) (p2 : Int) (p3 : Int) (p4 : (List Int)) : Nat → Int → Int → Int → (List Int) → Option ((Int × Int × Int × Int × (List Int)) ⊕ (T_hindcastref24_Queue × Int × Int))
  | 0, _, _, _, _ => none
  | n + 1, za, zb, zc, zd =>
      (cond (decide (za < (p4.length : Int))) (cond (decide ((IntKind.wrap .u64 (p3 + (IntKind.wrap .u64 za))) < p0.Sure.Frame)) (Option.bind
        (m_hindcastref11_History_At F p1 (IntKind.wrap .u64 (p3 + (IntKind.wrap .u64 za)))) fun (zf, zg) => (Option.bind (cond zg ((cond
        ((IntKind.wrap .u8 ((1 : Int) - p2)) == (0 : Int)) ((Option.bind (getI p4 za) fun v60 => some ((zf.1 != v60)))) (cond ((IntKind.wrap
        .u8 ((1 : Int) - p2)) == (1 : Int)) ((Option.bind (getI p4 za) fun v60 => some ((zf.2 != v60)))) none))) (some (false))) fun v63 =>
        (cond v63 (some (.inr ((T_hindcastref24_Queue.mk zb zc zd), za, (14 : Int)))) (m_hindcastref28_Inputs_L22 F p0
        p1 p2 p3 p4 n (IntKind.wrap .i64 (za + (1 : Int))) zb zc zd)))) (Option.bind (getI p4 za) fun v69 =>
        (Option.bind (m_hindcastref26_Engine_Remote F p0 (T_hindcastref24_Queue.mk zb zc zd) (IntKind.wrap .u64 (p3 +
        (IntKind.wrap .u64 za))) v69) fun (ze, v71) => (cond (v71 != (0 : Int)) (some (.inr (ze, za, v71))) (m_hindcastref28_Inputs_L22
        F p0 p1 p2 p3 p4 n (IntKind.wrap .i64 (za + (1 : Int))) ze.Begin ze.First ze.L))))) (some (.inl ((0 : Int), (0 : Int),
        zb, zc, zd))))

def m_hindcastref28_Inputs (F : Nat) (p0 : T_hindcastref26_Engine) (p0_4 : T_hindcastref24_Queue) (p1 : T_hindcastref11_History) (p2 : Int) (p3 : Int) (p4 : (List Int)) : Option (T_hindcastref24_Queue × Int × Int) :=
  (Option.bind (m_hindcastref28_bad F p2 p3 (p4.length : Int)) fun v27 => (cond (v27 != (0 : Int)) (some (p0_4, (0 : Int), (2 : Int))) (Option.bind
    (m_hindcastref28_Inputs_L22 F p0 p1 p2 p3 p4 F (0 : Int) p0_4.Begin p0_4.First p0_4.L) (orE (fun (zd, ze, za, zb,
    zc) => some ((T_hindcastref24_Queue.mk za zb zc), (p4.length : Int), (0 : Int))) (fun r23 => some r23)))))

def m_hindcastlaw28_BackfillTakes_L100012 (F : Nat) (p0 : T_hindcastlaw28_Setup) : Nat → Int → Int → Int → Int → Int → (T_api_Player × T_api_Player) → (List T_api_Shot) → (Int × Int) → (List Int) → Int → (List Int) → Int → Int → (Arr T_ring_place 14) → T_fold_History → Option (Int × Int × Int × Int × (T_api_Player × T_api_Player) × (List T_api_Shot) × (Int × Int) × (List Int) × Int × (List Int) × Int × Int × (Arr T_ring_place 14) × T_fold_History)
  | 0, _, _, _, _, _, _, _, _, _, _, _, _, _, _, _ => none
  | n + 1, za, zm, zn, zh, zi, zj, zk, zl, zo, zb, zc, zd, ze, zf, zp =>
      (cond (decide (za < (IntKind.wrap .i64 (Int.tmod p0.Sure 60)))) (Option.bind (m_hindcastlaw28_at F p0.Mine za) fun
        v100036 => (Option.bind (m_rollback_Engine_Local F (T_rollback_Engine.mk zm zn (T_api_State.mk
        zh zi zj zk zl) zo)
        (T_queue_Queue.mk zb zc zd) (T_ring_Ring.mk ze
        zf) v100036) fun (zr, v100037) => (Option.bind (m_hindcastlaw28_at F p0.Theirs za) fun v100044 =>
        (Option.bind (m_rollback_Engine_Remote F zr (T_queue_Queue.mk zb zc zd)
        (T_ring_Ring.mk ze zf) (IntKind.wrap .u64 za) v100044) fun (zt, zu, v100045)
        => (Option.bind (m_rollback_Engine_Confirm F zr zt zu (IntKind.wrap .u64 (IntKind.wrap .i64 (za + (1 :
        Int))))) fun (zg, zq, zs, zw, zx) => (Option.bind (m_hindcastlaw28_Setup_pair F p0 za) fun
        v100054 => (Option.bind (m_fold_History_Add F zp v100054) fun (zv, v100055) => m_hindcastlaw28_BackfillTakes_L100012 F
        p0 n (IntKind.wrap .i64 (za + (1 : Int))) zg.player zg.window zg.sure.Frame zg.sure.Seed
        zg.sure.Players zg.sure.Shots zg.sure.Score zg.own zq.first_ zq.l zq.last zs.size
        zs.places zv))))))) (some (zm, zn, zh, zi,
        zj, zk, zl, zo, zb, zc,
        zd, ze, zf, zp)))

def m_hindcastlaw28_BackfillTakes_L100033 (F : Nat) (p0 : T_hindcastlaw28_Setup) (zg : Int) (zh : (List Int)) (zi : Int) (zj : Int) (zk : (Arr T_ring_place 14)) : Nat → Int → Int → Int → Int → Int → (T_api_Player × T_api_Player) → (List T_api_Shot) → (Int × Int) → (List Int) → Option (Int × Int × Int × Int × (T_api_Player × T_api_Player) × (List T_api_Shot) × (Int × Int) × (List Int))
  | 0, _, _, _, _, _, _, _, _, _ => none
  | n + 1, zo, zl, zm, zb, zc, zd, ze, zf, zn =>
      (cond (decide (zo < (IntKind.wrap .i64 ((IntKind.wrap .i64 (Int.tmod p0.Sure 60)) + (IntKind.wrap .i64 (Int.tmod p0.Ahead 13))))))
        (Option.bind (m_hindcastlaw28_at F p0.Mine zo) fun v100071 => (Option.bind (m_rollback_Engine_Local F (T_rollback_Engine.mk
        zl zm (T_api_State.mk zb zc zd
        ze zf) zn) (T_queue_Queue.mk zg zh
        zi) (T_ring_Ring.mk zj zk) v100071) fun (za, v100072) =>
        m_hindcastlaw28_BackfillTakes_L100033 F p0 zg zh zi zj
        zk n (IntKind.wrap .i64 (zo + (1 : Int))) za.player za.window za.sure.Frame
        za.sure.Seed za.sure.Players za.sure.Shots za.sure.Score za.own)) (some (zl,
        zm, zb, zc, zd, ze, zf,
        zn)))

def m_hindcastlaw28_BackfillTakes_L100048 (F : Nat) (p0 : T_hindcastlaw28_Setup) (zl : Int) (zm : Int) (zg : Int) (zh : Int) (zi : (T_api_Player × T_api_Player)) (zj : (List T_api_Shot)) (zk : (Int × Int)) (zn : (List Int)) : Nat → Int → Int → (List Int) → Int → Int → (Arr T_ring_place 14) → Option (Int × (List Int) × Int × Int × (Arr T_ring_place 14))
  | 0, _, _, _, _, _, _ => none
  | n + 1, za, zb, zc, zd, ze, zf =>
      (cond (decide (za < (IntKind.wrap .i64 ((IntKind.wrap .i64 (Int.tmod p0.Sure 60)) + (IntKind.wrap .i64 (Int.tmod p0.Told 13))))))
        (Option.bind (m_hindcastlaw28_at F p0.Theirs za) fun v100090 => (Option.bind (m_rollback_Engine_Remote F (T_rollback_Engine.mk
        zl zm (T_api_State.mk zg zh zi
        zj zk) zn) (T_queue_Queue.mk zb zc
        zd) (T_ring_Ring.mk ze zf) (IntKind.wrap .u64 za) v100090) fun
        (zo, zp, v100091) => m_hindcastlaw28_BackfillTakes_L100048 F p0 zl zm zg
        zh zi zj zk zn n (IntKind.wrap .i64
        (za + (1 : Int))) zo.first_ zo.l zo.last zp.size zp.places)) (some (zb,
        zc, zd, ze, zf)))

def m_hindcastlaw28_BackfillTakes_L200012 (F : Nat) (p0 : T_hindcastlaw28_Setup) : Nat → Int → Int → Int → Int → Int → (T_api_Player × T_api_Player) → (List T_api_Shot) → (Int × Int) → (List Int) → Int → Int → (List Int) → Int → Int → (List (Int × Int)) → Option (Int × Int × Int × Int × (T_api_Player × T_api_Player) × (List T_api_Shot) × (Int × Int) × (List Int) × Int × Int × (List Int) × Int × Int × (List (Int × Int)))
  | 0, _, _, _, _, _, _, _, _, _, _, _, _, _, _, _ => none
  | n + 1, za, zk, zl, zf, zg, zh, zi, zj, zm, zb, zc, zd, zn, zo, zp =>
      (cond (decide (za < (IntKind.wrap .i64 (Int.tmod p0.Sure 60)))) (Option.bind (m_hindcastlaw28_at F p0.Mine za) fun
        v200037 => (Option.bind (m_hindcastref26_Engine_Local F (T_hindcastref26_Engine.mk zk zl (T_api_State.mk
        zf zg zh zi zj) zm)
        (T_hindcastref24_Queue.mk zb zc zd) v200037) fun (zs, v200038) =>
        (Option.bind (m_hindcastlaw28_at F p0.Theirs za) fun v200045 => (Option.bind (m_hindcastref26_Engine_Remote F zs
        (T_hindcastref24_Queue.mk zb zc zd) (IntKind.wrap .u64 za) v200045)
        fun (zt, v200046) => (Option.bind (m_hindcastref26_Engine_Confirm F zs zt (IntKind.wrap .u64 (IntKind.wrap .i64
        (za + (1 : Int))))) fun (ze, zq, zu, zv) => (Option.bind (m_hindcastlaw28_Setup_pair F p0
        za) fun v200055 => (Option.bind (m_hindcastref11_History_Add F (T_hindcastref11_History.mk zn zo
        zp) v200055) fun (zr, v200056) => m_hindcastlaw28_BackfillTakes_L200012 F p0 n (IntKind.wrap .i64 (za + (1
        : Int))) ze.Player ze.Window ze.Sure.Frame ze.Sure.Seed ze.Sure.Players ze.Sure.Shots
        ze.Sure.Score ze.Own zq.Begin zq.First zq.L zr.From zr.Most zr.L))))))) (some
        (zk, zl, zf, zg, zh, zi,
        zj, zm, zb, zc, zd, zn,
        zo, zp)))

def m_hindcastlaw28_BackfillTakes_L200033 (F : Nat) (p0 : T_hindcastlaw28_Setup) (zg : Int) (zh : Int) (zi : (List Int)) : Nat → Int → Int → Int → Int → Int → (T_api_Player × T_api_Player) → (List T_api_Shot) → (Int × Int) → (List Int) → Option (Int × Int × Int × Int × (T_api_Player × T_api_Player) × (List T_api_Shot) × (Int × Int) × (List Int))
  | 0, _, _, _, _, _, _, _, _, _ => none
  | n + 1, zm, zj, zk, zb, zc, zd, ze, zf, zl =>
      (cond (decide (zm < (IntKind.wrap .i64 ((IntKind.wrap .i64 (Int.tmod p0.Sure 60)) + (IntKind.wrap .i64 (Int.tmod p0.Ahead 13))))))
        (Option.bind (m_hindcastlaw28_at F p0.Mine zm) fun v200072 => (Option.bind (m_hindcastref26_Engine_Local F
        (T_hindcastref26_Engine.mk zj zk (T_api_State.mk zb zc
        zd ze zf) zl) (T_hindcastref24_Queue.mk zg
        zh zi) v200072) fun (za, v200073) => m_hindcastlaw28_BackfillTakes_L200033 F p0
        zg zh zi n (IntKind.wrap .i64 (zm + (1 : Int))) za.Player
        za.Window za.Sure.Frame za.Sure.Seed za.Sure.Players za.Sure.Shots za.Sure.Score za.Own))
        (some (zj, zk, zb, zc, zd,
        ze, zf, zl)))

def m_hindcastlaw28_BackfillTakes_L200048 (F : Nat) (p0 : T_hindcastlaw28_Setup) (zj : Int) (zk : Int) (ze : Int) (zf : Int) (zg : (T_api_Player × T_api_Player)) (zh : (List T_api_Shot)) (zi : (Int × Int)) (zl : (List Int)) : Nat → Int → Int → Int → (List Int) → Option (Int × Int × (List Int))
  | 0, _, _, _, _ => none
  | n + 1, za, zb, zc, zd =>
      (cond (decide (za < (IntKind.wrap .i64 ((IntKind.wrap .i64 (Int.tmod p0.Sure 60)) + (IntKind.wrap .i64 (Int.tmod p0.Told 13))))))
        (Option.bind (m_hindcastlaw28_at F p0.Theirs za) fun v200091 => (Option.bind (m_hindcastref26_Engine_Remote F
        (T_hindcastref26_Engine.mk zj zk (T_api_State.mk ze zf
        zg zh zi) zl) (T_hindcastref24_Queue.mk zb
        zc zd) (IntKind.wrap .u64 za) v200091) fun (zm, v200092) =>
        m_hindcastlaw28_BackfillTakes_L200048 F p0 zj zk ze zf
        zg zh zi zl n (IntKind.wrap .i64 (za + (1 : Int)))
        zm.Begin zm.First zm.L)) (some (zb, zc, zd)))

def m_hindcastlaw28_BackfillTakes (F : Nat) (p0 : T_hindcastlaw28_Setup) (p1 : T_hindcastlaw28_Told) (p2 : Int) : Option (Bool) :=
  (Option.bind (cond (decide ((100 : Int) < (p0.Mine.length : Int))) (some (true)) (some ((decide ((100 : Int) < (p0.Theirs.length : Int)))))) fun v28
    => (Option.bind (cond v28 (some (true)) (some ((decide ((100 : Int) < (p1.Pairs.length : Int)))))) fun v34 => (Option.bind (cond v34 (some (true))
    (some ((decide ((100 : Int) < (p1.Inputs.length : Int)))))) fun v40 => (cond v40 (Option.bind (m_hindcastlaw28_works F) fun v41 => some v41)
    (Option.bind (m_state_Start F p0.Seed) fun v100012 => (Option.bind (m_rollback_New F v100012 (Int.tmod p0.Player 2) (IntKind.wrap .i64 ((1 : Int)
    + (IntKind.wrap .i64 (Int.tmod p0.Window 12))))) fun v100021 => poE none (fun v100021s => (Option.bind (m_fold_New F (0 : Int) (256 : Int)) fun
    v100022 => poE none (fun v100022s => (Option.bind (m_hindcastlaw28_BackfillTakes_L100012 F p0 F (0 : Int) v100021s.1.player v100021s.1.window
    v100021s.1.sure.Frame v100021s.1.sure.Seed v100021s.1.sure.Players v100021s.1.sure.Shots v100021s.1.sure.Score v100021s.1.own v100021s.2.1.first_
    v100021s.2.1.l v100021s.2.1.last v100021s.2.2.size v100021s.2.2.places v100022s) fun (zaq, zar,
    zy, zz, zaa, zab, zac, zas,
    zq, zr, zs, zt, zu, zbd) =>
    (Option.bind (m_hindcastlaw28_BackfillTakes_L100033 F p0 zq zr zs
    zt zu F (IntKind.wrap .i64 (Int.tmod p0.Sure 60)) zaq zar
    zy zz zaa zab zac zas) fun
    (zk, zl, za, zb, zc, zd,
    ze, zm) => (Option.bind (m_hindcastlaw28_BackfillTakes_L100048 F p0 zk
    zl za zb zc zd ze
    zm F (IntKind.wrap .i64 (Int.tmod p0.Sure 60)) zq zr zs
    zt zu) fun (zad, zae, zaf,
    zag, zah) => (Option.bind (m_fold_History_Drop F zbd (IntKind.wrap .u64 (Int.tmod p0.From
    80))) fun zbb => (Option.bind (m_hindcastref08_Start F p0.Seed) fun v200012 => (Option.bind (m_hindcastref26_New F v200012 (Int.tmod
    p0.Player 2) (IntKind.wrap .i64 ((1 : Int) + (IntKind.wrap .i64 (Int.tmod p0.Window 12))))) fun v200021 => poE none (fun v200021s => (Option.bind
    (m_hindcastlaw28_BackfillTakes_L200012 F p0 F (0 : Int) v200021s.1.Player v200021s.1.Window v200021s.1.Sure.Frame v200021s.1.Sure.Seed
    v200021s.1.Sure.Players v200021s.1.Sure.Shots v200021s.1.Sure.Score v200021s.1.Own v200021s.2.Begin v200021s.2.First v200021s.2.L (0 : Int) (256 :
    Int) ([] : List (Int × Int))) fun (zat, zau, zai, zaj,
    zak, zal, zam, zav, zv, zw,
    zx, zay, zaz, zba) => (Option.bind (m_hindcastlaw28_BackfillTakes_L200033 F p0
    zv zw zx F (IntKind.wrap .i64 (Int.tmod p0.Sure 60)) zat
    zau zai zaj zak zal zam
    zav) fun (zn, zo, zf, zg, zh,
    zi, zj, zp) => (Option.bind (m_hindcastlaw28_BackfillTakes_L200048 F p0
    zn zo zf zg zh zi
    zj zp F (IntKind.wrap .i64 (Int.tmod p0.Sure 60)) zv zw
    zx) fun (zan, zao, zap) => (Option.bind (m_hindcastref11_History_Drop
    F (T_hindcastref11_History.mk zay zaz zba) (IntKind.wrap .u64 (Int.tmod p0.From 80))) fun zbc
    => (Option.bind (m_backfill_Plan F zbb p2) fun (zbs, zbt) => (Option.bind (m_hindcastref28_Plan F zbc p2) fun (zbu, zbv) =>
    (Option.bind (cond (zbs != zbu) (some (true)) (some ((zbt != zbv)))) fun v77 => (cond v77 (some false) (Option.bind (m_backfill_Pairs F
    (T_rollback_Engine.mk zk zl (T_api_State.mk za zb
    zc zd ze) zm) (T_queue_Queue.mk zad
    zae zaf) (T_ring_Ring.mk zag zah) zbb p1.Player p1.First
    p1.Pairs) fun (zbk, zbf, zbw, zbx) => (Option.bind (m_hindcastref28_Pairs F (T_hindcastref26_Engine.mk zn
    zo (T_api_State.mk zf zg zh zi
    zj) zp) (T_hindcastref24_Queue.mk zan zao zap)
    zbc p1.Player p1.First p1.Pairs) fun (zbl, zby, zbz) => (Option.bind (cond (zbw != zby) (some (true)) (some ((zbx != zbz))))
    fun v109 => (Option.bind (cond v109 (some (true, zbf.size, zbf.places)) ((Option.bind (m_hindcastlaw28_alike F (T_rollback_Engine.mk
    zk zl (T_api_State.mk za zb zc
    zd ze) zm) zbk zbf (T_hindcastref26_Engine.mk zn
    zo (T_api_State.mk zf zg zh zi
    zj) zp) zbl) fun (zbi, v113) => some ((!v113), zbi.size, zbi.places)))) fun (v115,
    zaw, zax) => (cond v115 (some false) (Option.bind (m_backfill_Inputs F (T_rollback_Engine.mk zk
    zl (T_api_State.mk za zb zc zd
    ze) zm) zbk (T_ring_Ring.mk zaw zax) zbb p1.Player p1.First
    p1.Inputs) fun (zbm, zbe, zbo, zbp) => (Option.bind (m_hindcastref28_Inputs F (T_hindcastref26_Engine.mk zn
    zo (T_api_State.mk zf zg zh zi
    zj) zp) zbl zbc p1.Player p1.First p1.Inputs) fun (zbn, zbq, zbr) => (Option.bind (cond
    (zbo == zbq) (some ((zbp == zbr))) (some (false))) fun v147 => (Option.bind (cond v147 ((Option.bind (m_hindcastlaw28_alike F
    (T_rollback_Engine.mk zk zl (T_api_State.mk za zb
    zc zd ze) zm) zbm zbe (T_hindcastref26_Engine.mk
    zn zo (T_api_State.mk zf zg zh
    zi zj) zp) zbn) fun (zbj, v151) => some (v151, zbj.size, zbj.places))) (some
    (false, zbe.size, zbe.places))) fun (v152, zbg, zbh) => (Option.bind (cond v152 ((Option.bind
    (m_hindcastlaw28_works F) fun v154 => some (v154))) (some (false))) fun v155 => some v155))))))))))))))))))) v200021))))))) v100022))
    v100021))))))

end Go.Proofs.YtkdbpenjkcjimaaGreatDoor
