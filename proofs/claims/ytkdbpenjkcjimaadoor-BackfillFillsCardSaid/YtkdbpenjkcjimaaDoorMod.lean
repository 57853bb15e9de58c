/-
  Models of the functions of the chapter: what each computes, as a Lean function (none: it is not said). Printed by a program of this claim's own.
-/
import Derived.Test.YtkdbpenjkcjimaaDoorEng5
namespace Go.Proofs.YtkdbpenjkcjimaaDoor
open Go.Proofs.YtkdbpenjkcjimaaDoor.Eng
set_option linter.unusedVariables false
set_option linter.unusedSimpArgs false

structure T_hindcastlaw28_Setup where
  Seed : Int
  Player : Int
  Window : Int
  Sure : Int
  Ahead : Int
  Told : Int
  From : Int
  Mine : (List Int)
  Theirs : (List Int)
theorem T_hindcastlaw28_Setup.eta (x : T_hindcastlaw28_Setup) : T_hindcastlaw28_Setup.mk x.Seed x.Player x.Window x.Sure x.Ahead x.Told x.From x.Mine x.Theirs = x := rfl

structure T_api_Shot where
  X : Int
  Y : Int
  VX : Int
  VY : Int
  Owner : Int
  Life : Int
theorem T_api_Shot.eta (x : T_api_Shot) : T_api_Shot.mk x.X x.Y x.VX x.VY x.Owner x.Life = x := rfl

def c_T_api_Shot (x : T_api_Shot) : List Value := [.int .i32 x.X, .int .i32 x.Y, .int .i32 x.VX, .int .i32 x.VY, .int .u8 x.Owner, .int .u8 x.Life]
theorem c_T_api_Shot_len (x : T_api_Shot) : (c_T_api_Shot x).length = 6 := rfl

structure T_api_Player where
  X : Int
  Y : Int
  VX : Int
  VY : Int
  Health : Int
  Cool : Int
  Face : Int
theorem T_api_Player.eta (x : T_api_Player) : T_api_Player.mk x.X x.Y x.VX x.VY x.Health x.Cool x.Face = x := rfl

def c_T_api_Player (x : T_api_Player) : List Value := [.int .i32 x.X, .int .i32 x.Y, .int .i32 x.VX, .int .i32 x.VY, .int .u8 x.Health, .int .u8 x.Cool, .int .u8 x.Face]
theorem c_T_api_Player_len (x : T_api_Player) : (c_T_api_Player x).length = 7 := rfl

structure T_api_State where
  Frame : Int
  Seed : Int
  Players : (T_api_Player × T_api_Player)
  Shots : (List T_api_Shot)
  Score : (Int × Int)
theorem T_api_State.eta (x : T_api_State) : T_api_State.mk x.Frame x.Seed x.Players x.Shots x.Score = x := rfl

def gl_state_playerBounds : List Value := [.int .i32 (0 : Int), .int .i32 (61440 : Int), .int .i32 (0 : Int), .int .i32 (28672 : Int), .int .i32 ((-1024) : Int), .int .i32 (1024 : Int), .int .i32 ((-1024) : Int), .int .i32 (1024 : Int), .int .i32 (1 : Int), .int .i32 (100 : Int), .int .i32 (0 : Int), .int .i32 (30 : Int), .int .i32 (0 : Int), .int .i32 (3 : Int)]

def gl_state_shotBounds : List Value := [.int .i32 (0 : Int), .int .i32 (65024 : Int), .int .i32 (0 : Int), .int .i32 (32256 : Int), .int .i32 ((-2048) : Int), .int .i32 (2048 : Int), .int .i32 ((-2048) : Int), .int .i32 (2048 : Int), .int .i32 (0 : Int), .int .i32 (1 : Int), .int .i32 (1 : Int), .int .i32 (40 : Int)]

structure T_queue_Queue where
  first_ : Int
  l : (List Int)
  last : Int
theorem T_queue_Queue.eta (x : T_queue_Queue) : T_queue_Queue.mk x.first_ x.l x.last = x := rfl

structure T_ring_place where
  s : T_api_State
  is_ : Bool
theorem T_ring_place.eta (x : T_ring_place) : T_ring_place.mk x.s x.is_ = x := rfl

def cg_T_ring_place (p : T_ring_place × G) : List Value := [.int .u64 p.1.s.Frame, .int .u64 p.1.s.Seed, .int .i32 p.1.s.Players.1.X, .int .i32 p.1.s.Players.1.Y, .int .i32 p.1.s.Players.1.VX, .int .i32 p.1.s.Players.1.VY, .int .u8 p.1.s.Players.1.Health, .int .u8 p.1.s.Players.1.Cool, .int .u8 p.1.s.Players.1.Face, .int .i32 p.1.s.Players.2.X, .int .i32 p.1.s.Players.2.Y, .int .i32 p.1.s.Players.2.VX, .int .i32 p.1.s.Players.2.VY, .int .u8 p.1.s.Players.2.Health, .int .u8 p.1.s.Players.2.Cool, .int .u8 p.1.s.Players.2.Face, .slice p.2.1 p.2.2.1 p.2.2.2, .int .u16 p.1.s.Score.1, .int .u16 p.1.s.Score.2, .bool p.1.is_]
theorem cg_T_ring_place_len (p : T_ring_place × G) : (cg_T_ring_place p).length = 20 := rfl
def sh_T_ring_place (x : T_ring_place) : List T_api_Shot := x.s.Shots

structure T_ring_Ring where
  size : Int
  places : (Arr T_ring_place 14)
theorem T_ring_Ring.eta (x : T_ring_Ring) : T_ring_Ring.mk x.size x.places = x := rfl

structure T_rollback_Engine where
  player : Int
  window : Int
  sure : T_api_State
  own : (List Int)
theorem T_rollback_Engine.eta (x : T_rollback_Engine) : T_rollback_Engine.mk x.player x.window x.sure x.own = x := rfl

structure T_fold_History where
  from_ : Int
  count : Int
  most : Int
  ring : (Arr (Int × Int) 256)
theorem T_fold_History.eta (x : T_fold_History) : T_fold_History.mk x.from_ x.count x.most x.ring = x := rfl

structure T_api_Box where
  X : Int
  Y : Int
  W : Int
  H : Int
theorem T_api_Box.eta (x : T_api_Box) : T_api_Box.mk x.X x.Y x.W x.H = x := rfl

def c_T_api_Box (x : T_api_Box) : List Value := [.int .i32 x.X, .int .i32 x.Y, .int .i32 x.W, .int .i32 x.H]
theorem c_T_api_Box_len (x : T_api_Box) : (c_T_api_Box x).length = 4 := rfl

structure T_geom_row where
  from_ : Int
  to_ : Int
theorem T_geom_row.eta (x : T_geom_row) : T_geom_row.mk x.from_ x.to_ = x := rfl

def c_T_geom_row (x : T_geom_row) : List Value := [.int .i64 x.from_, .int .i64 x.to_]
theorem c_T_geom_row_len (x : T_geom_row) : (c_T_geom_row x).length = 2 := rfl

structure T_rng_Source where
  S : Int
theorem T_rng_Source.eta (x : T_rng_Source) : T_rng_Source.mk x.S = x := rfl

def c_T_rng_Source (x : T_rng_Source) : List Value := [.int .u64 x.S]
theorem c_T_rng_Source_len (x : T_rng_Source) : (c_T_rng_Source x).length = 1 := rfl

@[reducible] def pl7 (x : T_api_Player) (t : List Value) : List Value := .int .i32 x.X :: .int .i32 x.Y :: .int .i32 x.VX :: .int .i32 x.VY :: .int .u8 x.Health :: .int .u8 x.Cool :: .int .u8 x.Face :: t
@[reducible] def pl14 (x : T_api_Player × T_api_Player) (t : List Value) : List Value := pl7 x.1 (pl7 x.2 t)
@[reducible] def agP (x : T_api_Player) : Value := .agg #[.int .i32 x.X, .int .i32 x.Y, .int .i32 x.VX, .int .i32 x.VY, .int .u8 x.Health, .int .u8 x.Cool, .int .u8 x.Face]
@[reducible] def agS (x : T_api_State) (a : Option Addr) (n c : Nat) : Value := .agg #[.int .u64 x.Frame, .int .u64 x.Seed, .int .i32 x.Players.1.X, .int .i32 x.Players.1.Y, .int .i32 x.Players.1.VX, .int .i32 x.Players.1.VY, .int .u8 x.Players.1.Health, .int .u8 x.Players.1.Cool, .int .u8 x.Players.1.Face, .int .i32 x.Players.2.X, .int .i32 x.Players.2.Y, .int .i32 x.Players.2.VX, .int .i32 x.Players.2.VY, .int .u8 x.Players.2.Health, .int .u8 x.Players.2.Cool, .int .u8 x.Players.2.Face, .slice a n c, .int .u16 x.Score.1, .int .u16 x.Score.2]
@[reducible] def st19 (x : T_api_State) (a : Option Addr) (n c : Nat) (t : List Value) : List Value := .int .u64 x.Frame :: .int .u64 x.Seed :: pl14 x.Players (.slice a n c :: .int .u16 x.Score.1 :: .int .u16 x.Score.2 :: t)
def m_state_Start_L8 (F : Nat) : Nat → Int → (T_api_Player × T_api_Player) → Option ((T_api_Player × T_api_Player))
  | 0, _, _ => none
  | n + 1, j9_7, j9_n3_f2 =>
      (cond (decide (j9_7 < (2 : Int))) (cond (j9_7 == (0 : Int)) (m_state_Start_L8 F n (IntKind.wrap .i64 (j9_7 + (1 : Int))) ((T_api_Player.mk
        (IntKind.wrap .i32 ((8192 : Int) + (IntKind.wrap .i32 ((IntKind.wrap .i32 j9_7) * (45056 : Int))))) (14336 : Int) (0 : Int) (0 : Int) (100 :
        Int) (0 : Int) (IntKind.wrap .u8 j9_7)), j9_n3_f2.2)) (cond (j9_7 == (1 : Int)) (m_state_Start_L8 F n (IntKind.wrap .i64 (j9_7 + (1 : Int)))
        (j9_n3_f2.1, (T_api_Player.mk (IntKind.wrap .i32 ((8192 : Int) + (IntKind.wrap .i32 ((IntKind.wrap .i32 j9_7) * (45056 : Int))))) (14336 :
        Int) (0 : Int) (0 : Int) (100 : Int) (0 : Int) (IntKind.wrap .u8 j9_7)))) none)) (some j9_n3_f2))

def m_state_Start (F : Nat) (p0 : Int) : Option (T_api_State) :=
  (Option.bind (m_state_Start_L8 F F (0 : Int) ((T_api_Player.mk (0 : Int) (0 : Int) (0 : Int) (0 : Int) (0 : Int) (0 : Int) (0 : Int)),
    (T_api_Player.mk (0 : Int) (0 : Int) (0 : Int) (0 : Int) (0 : Int) (0 : Int) (0 : Int)))) fun l9_n3_f2 => some (T_api_State.mk (0 : Int) p0
    l9_n3_f2 ([] : List T_api_Shot) ((0 : Int), (0 : Int))))

def m_state_ofPlayer (F : Nat) (p0 : T_api_Player) : Option ((List Int)) :=
  some ([p0.X, p0.Y, p0.VX, p0.VY, (IntKind.wrap .i32 p0.Health), (IntKind.wrap .i32 p0.Cool), (IntKind.wrap .i32 p0.Face)] : List Int)

def m_state_within_L6 (F : Nat) (p0 : (List Int)) (p1 : (List (Int × Int))) : Nat → Int → Option ((Bool) ⊕ (Bool))
  | 0, _ => none
  | n + 1, j7_8 =>
      (cond (decide (j7_8 < (p0.length : Int))) (Option.bind (getI p0 j7_8) fun v13 => (Option.bind (getI p1 j7_8) fun v17 => (Option.bind (cond
        (decide (v13 < v17.1)) (some (true)) ((Option.bind (getI p0 j7_8) fun v24 => (Option.bind (getI p1 j7_8) fun v28 => some ((decide (v28.2 <
        v24))))))) fun v32 => (cond v32 (some (.inr false)) (m_state_within_L6 F p0 p1 n (IntKind.wrap .i64 (j7_8 + (1 : Int)))))))) (some (.inl
        false)))

def m_state_within (F : Nat) (p0 : (List Int)) (p1 : (List (Int × Int))) : Option (Bool) :=
  (Option.bind (m_state_within_L6 F p0 p1 F (0 : Int)) (orE (fun l7_4 => some true) (fun r7 => some r7)))

def m_state_ofShot (F : Nat) (p0 : T_api_Shot) : Option ((List Int)) :=
  some ([p0.X, p0.Y, p0.VX, p0.VY, (IntKind.wrap .i32 p0.Owner), (IntKind.wrap .i32 p0.Life)] : List Int)

def m_state_Check_1 (F : Nat) (p0 : T_api_Shot) (p1 : (Arr (Int × Int) 6)) : Option (Bool) :=
  (Option.bind (m_state_ofShot F p0) fun v5 => (Option.bind (m_state_within F v5 p1.1) fun v7 => some (!v7)))

def m_slices_IndexFunc___api_Shot_api_Shot_f1_state_Check_1_L6 (F : Nat) (p0 : (List T_api_Shot)) (p1c0 : (Arr (Int × Int) 6)) : Nat → Int → Option ((Int) ⊕ (Int))
  | 0, _ => none
  | n + 1, j7_8 =>
      (cond (decide (j7_8 < (p0.length : Int))) (Option.bind (getI p0 j7_8) fun v14 => (Option.bind (m_state_Check_1 F v14 p1c0) fun v16 => (cond v16
        (some (.inr j7_8)) (m_slices_IndexFunc___api_Shot_api_Shot_f1_state_Check_1_L6 F p0 p1c0 n (IntKind.wrap .i64 (j7_8 + (1 : Int))))))) (some
        (.inl (0 : Int))))

def m_slices_IndexFunc___api_Shot_api_Shot_f1_state_Check_1 (F : Nat) (p0 : (List T_api_Shot)) (p1c0 : (Arr (Int × Int) 6)) : Option (Int) :=
  (Option.bind (m_slices_IndexFunc___api_Shot_api_Shot_f1_state_Check_1_L6 F p0 p1c0 F (0 : Int)) (orE (fun l7_4 => some (-1 : Int)) (fun r7 => some
    r7)))

def m_slices_ContainsFunc___api_Shot_api_Shot_f1_state_Check_1 (F : Nat) (p0 : (List T_api_Shot)) (p1c0 : (Arr (Int × Int) 6)) : Option (Bool) :=
  (Option.bind (m_slices_IndexFunc___api_Shot_api_Shot_f1_state_Check_1 F p0 p1c0) fun v7 => some (decide ((0 : Int) ≤ v7)))

def m_state_Check_L10 (F : Nat) (p0 : T_api_State) : Nat → Bool → Int → Option (Bool)
  | 0, _, _ => none
  | n + 1, j11_5, j11_16 =>
      (cond (decide (j11_16 < (2 : Int))) (cond (j11_16 == (0 : Int)) ((Option.bind (cond j11_5 ((Option.bind (m_state_ofPlayer F p0.Players.1) fun
        v22 => (Option.bind (m_state_within F v22 ([((0 : Int), (61440 : Int)), ((0 : Int), (28672 : Int)), (((-1024) : Int), (1024 : Int)), (((-1024)
        : Int), (1024 : Int)), ((1 : Int), (100 : Int)), ((0 : Int), (30 : Int)), ((0 : Int), (3 : Int))] : List (Int × Int))) fun v24 => some
        (v24)))) (some (false))) fun v25 => m_state_Check_L10 F p0 n v25 (IntKind.wrap .i64 (j11_16 + (1 : Int))))) (cond (j11_16 == (1 : Int))
        ((Option.bind (cond j11_5 ((Option.bind (m_state_ofPlayer F p0.Players.2) fun v22 => (Option.bind (m_state_within F v22 ([((0 : Int), (61440 :
        Int)), ((0 : Int), (28672 : Int)), (((-1024) : Int), (1024 : Int)), (((-1024) : Int), (1024 : Int)), ((1 : Int), (100 : Int)), ((0 : Int), (30
        : Int)), ((0 : Int), (3 : Int))] : List (Int × Int))) fun v24 => some (v24)))) (some (false))) fun v25 => m_state_Check_L10 F p0 n v25
        (IntKind.wrap .i64 (j11_16 + (1 : Int))))) none)) (some j11_5))

def m_state_Check (F : Nat) (p0 : T_api_State) : Option (Int) :=
  (Option.bind (m_state_Check_L10 F p0 F (decide ((p0.Shots.length : Int) ≤ (8 : Int))) (0 : Int)) fun l11_5 => (Option.bind (cond (!l11_5) (some
    (true)) ((Option.bind (m_slices_ContainsFunc___api_Shot_api_Shot_f1_state_Check_1 F p0.Shots (⟨[((0 : Int), (65024 : Int)), ((0 : Int), (32256 :
    Int)), (((-2048) : Int), (2048 : Int)), (((-2048) : Int), (2048 : Int)), ((0 : Int), (1 : Int)), ((1 : Int), (40 : Int))], rfl⟩ : Arr (Int × Int)
    6)) fun v33 => some (v33)))) fun v34 => (cond v34 (some (4 : Int)) (some (0 : Int)))))

def m_slices_Clone___api_Shot_api_Shot (F : Nat) (p0 : (List T_api_Shot)) : Option ((List T_api_Shot)) :=
  (Option.bind (appI ([] : List T_api_Shot) p0) fun v7 => some v7)

def m_state_Copy (F : Nat) (p0 : T_api_State) : Option (T_api_State) :=
  (Option.bind (m_slices_Clone___api_Shot_api_Shot F p0.Shots) fun v5 => some (T_api_State.mk p0.Frame p0.Seed p0.Players v5 p0.Score))

def m_queue_New (F : Nat) (p0 : Int) : Option (T_queue_Queue) :=
  some (T_queue_Queue.mk p0 ([] : List Int) (0 : Int))

def m_ring_New (F : Nat) (p0 : Int) : Option ((Option T_ring_Ring)) :=
  (Option.bind (cond (decide (p0 < (1 : Int))) (some (true)) (some ((decide ((14 : Int) < p0))))) fun v8 => (cond v8 (some none) (some (some
    (T_ring_Ring.mk p0 (Arr.rep 14 (T_ring_place.mk (T_api_State.mk (0 : Int) (0 : Int) ((T_api_Player.mk (0 : Int) (0 : Int) (0 : Int) (0 : Int) (0 :
    Int) (0 : Int) (0 : Int)), (T_api_Player.mk (0 : Int) (0 : Int) (0 : Int) (0 : Int) (0 : Int) (0 : Int) (0 : Int))) ([] : List T_api_Shot) ((0 :
    Int), (0 : Int))) false)))))))

def m_ring_Ring_is_nil0 (F : Nat) : Option (Bool) :=
  some false

def m_ring_Ring_Put_nil0 (F : Nat) (p1 : T_api_State) : Option (Bool) :=
  (Option.bind (m_ring_Ring_is_nil0 F) fun v7 => (Option.bind (cond (!v7) (some (true)) ((Option.bind (m_state_Check F p1) fun v11 => some ((v11 != (0
    : Int)))))) fun v13 => (cond v13 (some false) none)))

def m_ring_Ring_is (F : Nat) (p0 : T_ring_Ring) : Option (Bool) :=
  some (decide ((0 : Int) < p0.size))

def m_ring_told (F : Nat) (p0 : T_api_State) : Option (T_api_State) :=
  (Option.bind (mkI (p0.Shots.length : Int) (T_api_Shot.mk (0 : Int) (0 : Int) (0 : Int) (0 : Int) (0 : Int) (0 : Int))) fun v10 => some
    (T_api_State.mk p0.Frame p0.Seed p0.Players (copyL v10 p0.Shots) p0.Score))

def m_ring_Ring_Put (F : Nat) (p0 : T_ring_Ring) (p1 : T_api_State) : Option (T_ring_Ring × Bool) :=
  (Option.bind (m_ring_Ring_is F p0) fun v7 => (Option.bind (cond (!v7) (some (true)) ((Option.bind (m_state_Check F p1) fun v11 => some ((v11 != (0 :
    Int)))))) fun v13 => (cond v13 (some (p0, false)) (Option.bind (remI p1.Frame (IntKind.wrap .u64 p0.size)) fun v100012 => (Option.bind (getI
    p0.places.1 v100012) fun v100015 => (Option.bind (cond v100015.is_ (some ((decide (p1.Frame < v100015.s.Frame)))) (some (false))) fun v31 => (cond
    v31 (some (p0, false)) (Option.bind (m_ring_told F p1) fun v34 => some ((T_ring_Ring.mk p0.size (Arr.set p0.places v100012 (T_ring_place.mk v34
    true))), true)))))))))

def m_rollback_New (F : Nat) (p0 : T_api_State) (p1 : Int) (p2 : Int) : Option ((Option (T_rollback_Engine × T_queue_Queue × T_ring_Ring))) :=
  (Option.bind (m_state_Check F p0) fun v9 => (Option.bind (cond (v9 != (0 : Int)) (some (true)) (some ((decide ((9223372036854775808 : Int) <
    p0.Frame))))) fun v15 => (Option.bind (cond v15 (some (true)) (some ((decide ((1 : Int) < p1))))) fun v19 => (Option.bind (cond v19 (some (true))
    (some ((decide (p2 < (1 : Int)))))) fun v23 => (Option.bind (cond v23 (some (true)) (some ((decide ((12 : Int) < p2))))) fun v27 => (cond v27
    (some none) (Option.bind (m_state_Copy F p0) fun v31 => (Option.bind (m_queue_New F p0.Frame) fun v34 => (Option.bind (m_ring_New F (IntKind.wrap
    .i64 (p2 + (2 : Int)))) fun v37 => poE ((Option.bind (m_ring_Ring_Put_nil0 F p0) fun v45 => none)) (fun v37s => (Option.bind (m_ring_Ring_Put F
    v37s p0) fun (o45_0, v45) => some (some ((T_rollback_Engine.mk p1 p2 v31 ([] : List Int)), v34, o45_0)))) v37)))))))))

def m_fold_New (F : Nat) (p0 : Int) (p1 : Int) : Option ((Option T_fold_History)) :=
  (Option.bind (cond (decide (p1 < (1 : Int))) (some (true)) (some ((decide ((256 : Int) < p1))))) fun v10 => (cond v10 (some none) (some (some
    (T_fold_History.mk p0 p0 (IntKind.wrap .u64 p1) (Arr.rep 256 ((0 : Int), (0 : Int))))))))

def m_rollback_Engine_is_nil0 (F : Nat) : Option (Bool) :=
  some false

def m_input_Legal (F : Nat) (p0 : Int) : Option (Bool) :=
  some (decide (p0 < (64 : Int)))

def m_rollback_Engine_Local_nil0 (F : Nat) (p1 : Int) : Option (Int) :=
  (Option.bind (m_rollback_Engine_is_nil0 F) fun v7 => (cond (!v7) (some (1 : Int)) (Option.bind (m_input_Legal F p1) fun v11 => (cond (!v11) (some (2
    : Int)) none))))

def m_queue_Queue_Known (F : Nat) (p0 : T_queue_Queue) : Option (Int) :=
  some (IntKind.wrap .u64 (p0.first_ + (IntKind.wrap .u64 (p0.l.length : Int))))

def m_queue_Queue_from (F : Nat) (p0 : T_queue_Queue) (p1 : Int) : Option ((List Int)) :=
  (Option.bind (cond (decide (p1 < p0.first_)) (some (true)) ((Option.bind (m_queue_Queue_Known F p0) fun v18 => some ((decide (v18 ≤ p1)))))) fun v20
    => (cond v20 (some ([] : List Int)) (Option.bind (cut3I p0.l (IntKind.wrap .u64 (p1 - p0.first_)) (p0.l.length : Int) (p0.l.length : Int)) fun v41
    => some v41)))

def m_queue_Queue_At (F : Nat) (p0 : T_queue_Queue) (p1 : Int) : Option (Int × Bool) :=
  (Option.bind (m_queue_Queue_from F p0 p1) fun v9 => (cond (decide ((0 : Int) < (v9.length : Int))) (Option.bind (getI v9 (0 : Int)) fun v14 => some
    (v14, true)) (some ((0 : Int), false))))

def m_queue_Queue_Guess (F : Nat) (p0 : T_queue_Queue) (p1 : Int) : Option (Int) :=
  (Option.bind (m_queue_Queue_At F p0 p1) fun (v10_0, v10_1) => (Option.bind (cond v10_1 (some (true)) (some (false))) fun v17 => (cond v17 (some
    v10_0) (some p0.last))))

def m_rollback_Engine_Remote_nil0 (F : Nat) (p1 : Int) (p2 : Int) : Option (Int) :=
  (Option.bind (m_rollback_Engine_is_nil0 F) fun v11 => (cond (!v11) (some (1 : Int)) none))

def m_rollback_Engine_pair_nil0 (F : Nat) (p1 : Int) : Option ((Int × Int)) :=
  none

def m_rollback_Engine_Next_nil0 (F : Nat) : Option ((Int × Int) × Bool) :=
  (Option.bind (m_rollback_Engine_is_nil0 F) fun v5 => (Option.bind (cond (!v5) (some (true)) (none)) fun v14 => (Option.bind (cond v14 (some (true))
    (none)) fun v27 => (cond v27 (some (((0 : Int), (0 : Int)), false)) none))))

def m_input_way (F : Nat) (p0 : Int) (p1 : Int) (p2 : Int) : Option (Int) :=
  (cond ((bits .and .u8 p0 (bits .or .u8 p1 p2)) == p1) (some (-1 : Int)) (cond ((bits .and .u8 p0 (bits .or .u8 p1 p2)) == p2) (some (1 : Int)) (some
    (0 : Int))))

def m_input_Dir (F : Nat) (p0 : Int) : Option (Int × Int) :=
  (Option.bind (m_input_way F p0 (1 : Int) (2 : Int)) fun v5 => (Option.bind (m_input_way F p0 (4 : Int) (8 : Int)) fun v7 => some (v5, v7)))

def m_step_turn (F : Nat) (p0 : Int) (p1 : Int) (p2 : Int) : Option (Int) :=
  (cond (decide ((0 : Int) < p1)) (some (0 : Int)) (cond (decide (p1 < (0 : Int))) (some (1 : Int)) (cond (decide (p2 < (0 : Int))) (some (2 : Int))
    (cond (decide ((0 : Int) < p2)) (some (3 : Int)) (some p0)))))

def m_input_Dash (F : Nat) (p0 : Int) : Option (Bool) :=
  some ((bits .and .u8 p0 (32 : Int)) != (0 : Int))

def m_step_steer_1 (F : Nat) (p0 : Int) (p1 : Int) (p2 : Bool) : Option (Int) :=
  (Option.bind ((cond (p1 != (0 : Int)) (some (IntKind.wrap .i32 (p0 + (IntKind.wrap .i32 ((64 : Int) * p1))))) (Option.bind (cond (decide ((-8 : Int)
    < (IntKind.wrap .i32 (p0 - (IntKind.wrap .i32 (Int.tdiv p0 8)))))) (some ((decide ((IntKind.wrap .i32 (p0 - (IntKind.wrap .i32 (Int.tdiv p0 8))))
    < (8 : Int))))) (some (false))) fun v21 => (cond v21 (some (0 : Int)) (some (IntKind.wrap .i32 (p0 - (IntKind.wrap .i32 (Int.tdiv p0 8)))))))))
    fun j6_0 => (Option.bind ((cond p2 (some (IntKind.wrap .i32 (j6_0 * (2 : Int)))) (some j6_0))) fun j18_0 => some (max (-1024 : Int) (min j18_0
    (1024 : Int)))))

def m_step_steer (F : Nat) (p0 : T_api_Player) (p1 : Int) : Option (T_api_Player) :=
  (Option.bind (m_input_Dir F p1) fun (v11_0, v11_1) => (Option.bind (m_step_turn F p0.Face v11_0 v11_1) fun v25 => (Option.bind (m_input_Dash F p1)
    fun v28 => (Option.bind (cond v28 (some (((IntKind.wrap .u8 (p0.Cool - (min p0.Cool (1 : Int)))) == (0 : Int)))) (some (false))) fun v33 =>
    (Option.bind (m_step_steer_1 F p0.VX v11_0 v33) fun v39 => (Option.bind (m_step_steer_1 F p0.VY v11_1 v33) fun v44 => (Option.bind ((cond v33
    (some (T_api_Player.mk p0.X p0.Y v39 v44 p0.Health (30 : Int) v25)) (some (T_api_Player.mk p0.X p0.Y v39 v44 p0.Health (IntKind.wrap .u8 (p0.Cool
    - (min p0.Cool (1 : Int)))) v25)))) fun j18_n2 => some j18_n2)))))))

def m_input_Fire (F : Nat) (p0 : Int) : Option (Bool) :=
  some ((bits .and .u8 p0 (16 : Int)) != (0 : Int))

def m_step_shoot (F : Nat) (p0 : T_api_Player) (p1 : Int) : Option (T_api_Shot) :=
  (Option.bind ((cond (p0.Face == (0 : Int)) (some (T_api_Shot.mk (IntKind.wrap .i32 (p0.X + (1792 : Int))) (IntKind.wrap .i32 (p0.Y + (1792 : Int)))
    (2048 : Int) (0 : Int) p1 (40 : Int))) (cond (p0.Face == (1 : Int)) (some (T_api_Shot.mk (IntKind.wrap .i32 (p0.X + (1792 : Int))) (IntKind.wrap
    .i32 (p0.Y + (1792 : Int))) (-2048 : Int) (0 : Int) p1 (40 : Int))) (cond (p0.Face == (2 : Int)) (some (T_api_Shot.mk (IntKind.wrap .i32 (p0.X +
    (1792 : Int))) (IntKind.wrap .i32 (p0.Y + (1792 : Int))) (0 : Int) (-2048 : Int) p1 (40 : Int))) (some (T_api_Shot.mk (IntKind.wrap .i32 (p0.X +
    (1792 : Int))) (IntKind.wrap .i32 (p0.Y + (1792 : Int))) (0 : Int) (2048 : Int) p1 (40 : Int))))))) fun j8_n5 => some j8_n5)

def m_geom_Move (F : Nat) (p0 : Int) (p1 : Int) (p2 : Int) (p3 : Int) : Option (Int × Int) :=
  (Option.bind (cond (decide (p3 < p2)) (some (true)) (some ((decide ((IntKind.wrap .i64 ((IntKind.wrap .i64 p0) + (IntKind.wrap .i64 p1))) <
    (IntKind.wrap .i64 p2)))))) fun v24 => (cond v24 (some (p2, (0 : Int))) (cond (decide ((IntKind.wrap .i64 p3) < (IntKind.wrap .i64 ((IntKind.wrap
    .i64 p0) + (IntKind.wrap .i64 p1))))) (some (p3, (0 : Int))) (some ((IntKind.wrap .i32 (IntKind.wrap .i64 ((IntKind.wrap .i64 p0) + (IntKind.wrap
    .i64 p1)))), p1)))))

def m_step_moved (F : Nat) (p0 : T_api_Player) : Option (T_api_Player) :=
  (Option.bind (m_geom_Move F p0.X p0.VX (0 : Int) (61440 : Int)) fun (v8_0, v8_1) => (Option.bind (m_geom_Move F p0.Y p0.VY (0 : Int) (28672 : Int))
    fun (v18_0, v18_1) => some (T_api_Player.mk v8_0 v18_0 v8_1 v18_1 p0.Health p0.Cool p0.Face)))

def m_step_box (F : Nat) (p0 : T_api_Player) : Option (T_api_Box) :=
  some (T_api_Box.mk p0.X p0.Y (4096 : Int) (4096 : Int))

def m_geom_of (F : Nat) (p0 : Int) (p1 : Int) : Option (T_geom_row) :=
  some (T_geom_row.mk (IntKind.wrap .i64 p0) (IntKind.wrap .i64 ((IntKind.wrap .i64 p0) + (IntKind.wrap .i64 (max (0 : Int) p1)))))

def m_geom_rows (F : Nat) (p0 : T_api_Box) : Option (T_geom_row × T_geom_row) :=
  (Option.bind (m_geom_of F p0.X p0.W) fun v8 => (Option.bind (m_geom_of F p0.Y p0.H) fun v13 => some (v8, v13)))

def m_geom_row_over (F : Nat) (p0 : T_geom_row) (p1 : T_geom_row) : Option (Bool) :=
  some (decide ((max p0.from_ p1.from_) < (min p0.to_ p1.to_)))

def m_geom_both_f2_geom_row_over (F : Nat) (p0 : T_api_Box) (p1 : T_api_Box) : Option (Bool) :=
  (Option.bind (m_geom_rows F p0) fun (v13_0, v13_1) => (Option.bind (m_geom_rows F p1) fun (v18_0, v18_1) => (Option.bind (m_geom_row_over F v13_0
    v18_0) fun v24 => (Option.bind (cond v24 ((Option.bind (m_geom_row_over F v13_1 v18_1) fun v29 => some (v29))) (some (false))) fun v30 => some
    v30))))

def m_geom_Over (F : Nat) (p0 : T_api_Box) (p1 : T_api_Box) : Option (Bool) :=
  (Option.bind (m_geom_both_f2_geom_row_over F p0 p1) fun v7 => some v7)

def m_step_stopped (F : Nat) (p0 : T_api_Player) : Option (T_api_Player) :=
  some (T_api_Player.mk p0.X p0.Y (0 : Int) (0 : Int) p0.Health p0.Cool p0.Face)

def m_geom_row_inside (F : Nat) (p0 : T_geom_row) (p1 : T_geom_row) : Option (Bool) :=
  (Option.bind (cond (decide (p0.from_ < p0.to_)) (some ((decide (p1.from_ ≤ p0.from_)))) (some (false))) fun v16 => (Option.bind (cond v16 (some
    ((decide (p0.to_ ≤ p1.to_)))) (some (false))) fun v23 => some v23))

def m_geom_both_f2_geom_row_inside (F : Nat) (p0 : T_api_Box) (p1 : T_api_Box) : Option (Bool) :=
  (Option.bind (m_geom_rows F p0) fun (v13_0, v13_1) => (Option.bind (m_geom_rows F p1) fun (v18_0, v18_1) => (Option.bind (m_geom_row_inside F v13_0
    v18_0) fun v24 => (Option.bind (cond v24 ((Option.bind (m_geom_row_inside F v13_1 v18_1) fun v29 => some (v29))) (some (false))) fun v30 => some
    v30))))

def m_geom_Inside (F : Nat) (p0 : T_api_Box) (p1 : T_api_Box) : Option (Bool) :=
  (Option.bind (m_geom_both_f2_geom_row_inside F p0 p1) fun v7 => some v7)

def m_step_fly_L8 (F : Nat) (p0 : T_api_State) : Nat → (List T_api_Shot) → Int → (T_api_Player × T_api_Player) → (Int × Int) → Option ((List T_api_Shot) × (T_api_Player × T_api_Player) × (Int × Int))
  | 0, _, _, _, _ => none
  | n + 1, j9_3, j9_14, j9_p0_f2, j9_p0_f4 =>
      (cond (decide (j9_14 < (p0.Shots.length : Int))) (Option.bind (getI p0.Shots j9_14) fun v16 => (cond ((IntKind.wrap .u8 ((1 : Int) - v16.Owner))
        == (0 : Int)) ((Option.bind (m_geom_Inside F (T_api_Box.mk (IntKind.wrap .i32 (v16.X + v16.VX)) (IntKind.wrap .i32 (v16.Y + v16.VY)) (512 :
        Int) (512 : Int)) (T_api_Box.mk (0 : Int) (0 : Int) (65536 : Int) (32768 : Int))) fun v49 => (cond (!v49) (m_step_fly_L8 F p0 n j9_3
        (IntKind.wrap .i64 (j9_14 + (1 : Int))) j9_p0_f2 j9_p0_f4) (Option.bind (m_step_box F j9_p0_f2.1) fun v56 => (Option.bind (m_geom_Over F
        (T_api_Box.mk (IntKind.wrap .i32 (v16.X + v16.VX)) (IntKind.wrap .i32 (v16.Y + v16.VY)) (512 : Int) (512 : Int)) v56) fun v57 => (cond v57
        (cond (v16.Owner == (0 : Int)) (m_step_fly_L8 F p0 n j9_3 (IntKind.wrap .i64 (j9_14 + (1 : Int))) ((T_api_Player.mk j9_p0_f2.1.X j9_p0_f2.1.Y
        j9_p0_f2.1.VX j9_p0_f2.1.VY (IntKind.wrap .u8 (j9_p0_f2.1.Health - (min j9_p0_f2.1.Health (10 : Int)))) j9_p0_f2.1.Cool j9_p0_f2.1.Face),
        j9_p0_f2.2) ((IntKind.wrap .u16 ((min j9_p0_f4.1 (65534 : Int)) + (1 : Int))), j9_p0_f4.2)) (cond (v16.Owner == (1 : Int)) (m_step_fly_L8 F p0
        n j9_3 (IntKind.wrap .i64 (j9_14 + (1 : Int))) ((T_api_Player.mk j9_p0_f2.1.X j9_p0_f2.1.Y j9_p0_f2.1.VX j9_p0_f2.1.VY (IntKind.wrap .u8
        (j9_p0_f2.1.Health - (min j9_p0_f2.1.Health (10 : Int)))) j9_p0_f2.1.Cool j9_p0_f2.1.Face), j9_p0_f2.2) (j9_p0_f4.1, (IntKind.wrap .u16 ((min
        j9_p0_f4.2 (65534 : Int)) + (1 : Int))))) none)) (cond (decide ((0 : Int) < (IntKind.wrap .u8 (v16.Life - (1 : Int))))) (Option.bind (appI
        j9_3 ([(T_api_Shot.mk (IntKind.wrap .i32 (v16.X + v16.VX)) (IntKind.wrap .i32 (v16.Y + v16.VY)) v16.VX v16.VY v16.Owner (IntKind.wrap .u8
        (v16.Life - (1 : Int))))] : List T_api_Shot)) fun v92 => m_step_fly_L8 F p0 n v92 (IntKind.wrap .i64 (j9_14 + (1 : Int))) j9_p0_f2 j9_p0_f4)
        (m_step_fly_L8 F p0 n j9_3 (IntKind.wrap .i64 (j9_14 + (1 : Int))) j9_p0_f2 j9_p0_f4)))))))) (cond ((IntKind.wrap .u8 ((1 : Int) - v16.Owner))
        == (1 : Int)) ((Option.bind (m_geom_Inside F (T_api_Box.mk (IntKind.wrap .i32 (v16.X + v16.VX)) (IntKind.wrap .i32 (v16.Y + v16.VY)) (512 :
        Int) (512 : Int)) (T_api_Box.mk (0 : Int) (0 : Int) (65536 : Int) (32768 : Int))) fun v49 => (cond (!v49) (m_step_fly_L8 F p0 n j9_3
        (IntKind.wrap .i64 (j9_14 + (1 : Int))) j9_p0_f2 j9_p0_f4) (Option.bind (m_step_box F j9_p0_f2.2) fun v56 => (Option.bind (m_geom_Over F
        (T_api_Box.mk (IntKind.wrap .i32 (v16.X + v16.VX)) (IntKind.wrap .i32 (v16.Y + v16.VY)) (512 : Int) (512 : Int)) v56) fun v57 => (cond v57
        (cond (v16.Owner == (0 : Int)) (m_step_fly_L8 F p0 n j9_3 (IntKind.wrap .i64 (j9_14 + (1 : Int))) (j9_p0_f2.1, (T_api_Player.mk j9_p0_f2.2.X
        j9_p0_f2.2.Y j9_p0_f2.2.VX j9_p0_f2.2.VY (IntKind.wrap .u8 (j9_p0_f2.2.Health - (min j9_p0_f2.2.Health (10 : Int)))) j9_p0_f2.2.Cool
        j9_p0_f2.2.Face)) ((IntKind.wrap .u16 ((min j9_p0_f4.1 (65534 : Int)) + (1 : Int))), j9_p0_f4.2)) (cond (v16.Owner == (1 : Int))
        (m_step_fly_L8 F p0 n j9_3 (IntKind.wrap .i64 (j9_14 + (1 : Int))) (j9_p0_f2.1, (T_api_Player.mk j9_p0_f2.2.X j9_p0_f2.2.Y j9_p0_f2.2.VX
        j9_p0_f2.2.VY (IntKind.wrap .u8 (j9_p0_f2.2.Health - (min j9_p0_f2.2.Health (10 : Int)))) j9_p0_f2.2.Cool j9_p0_f2.2.Face)) (j9_p0_f4.1,
        (IntKind.wrap .u16 ((min j9_p0_f4.2 (65534 : Int)) + (1 : Int))))) none)) (cond (decide ((0 : Int) < (IntKind.wrap .u8 (v16.Life - (1 :
        Int))))) (Option.bind (appI j9_3 ([(T_api_Shot.mk (IntKind.wrap .i32 (v16.X + v16.VX)) (IntKind.wrap .i32 (v16.Y + v16.VY)) v16.VX v16.VY
        v16.Owner (IntKind.wrap .u8 (v16.Life - (1 : Int))))] : List T_api_Shot)) fun v92 => m_step_fly_L8 F p0 n v92 (IntKind.wrap .i64 (j9_14 + (1 :
        Int))) j9_p0_f2 j9_p0_f4) (m_step_fly_L8 F p0 n j9_3 (IntKind.wrap .i64 (j9_14 + (1 : Int))) j9_p0_f2 j9_p0_f4)))))))) none))) (some (j9_3,
        j9_p0_f2, j9_p0_f4)))

def m_step_fly (F : Nat) (p0 : T_api_State) : Option (T_api_State) :=
  (Option.bind (m_step_fly_L8 F p0 F ([] : List T_api_Shot) (0 : Int) p0.Players p0.Score) fun (l9_3, l9_p0_f2, l9_p0_f4) => some (T_api_State.mk
    p0.Frame p0.Seed l9_p0_f2 l9_3 l9_p0_f4))

def m_rng_Source_Skip (F : Nat) (p0 : T_rng_Source) (p1 : Int) : Option (T_rng_Source) :=
  some (T_rng_Source.mk (IntKind.wrap .u64 (p0.S + (IntKind.wrap .u64 (p1 * (11400714819323198485 : Int))))))

def m_rng_Mix (F : Nat) (p0 : Int) : Option (Int) :=
  some (bits .xor .u64 (IntKind.wrap .u64 ((bits .xor .u64 (IntKind.wrap .u64 ((bits .xor .u64 p0 (p0 / 2 ^ (min 30 (IntKind.bits .u64)))) *
    (13787848793156543929 : Int))) ((IntKind.wrap .u64 ((bits .xor .u64 p0 (p0 / 2 ^ (min 30 (IntKind.bits .u64)))) * (13787848793156543929 : Int))) /
    2 ^ (min 27 (IntKind.bits .u64)))) * (10723151780598845931 : Int))) ((IntKind.wrap .u64 ((bits .xor .u64 (IntKind.wrap .u64 ((bits .xor .u64 p0
    (p0 / 2 ^ (min 30 (IntKind.bits .u64)))) * (13787848793156543929 : Int))) ((IntKind.wrap .u64 ((bits .xor .u64 p0 (p0 / 2 ^ (min 30 (IntKind.bits
    .u64)))) * (13787848793156543929 : Int))) / 2 ^ (min 27 (IntKind.bits .u64)))) * (10723151780598845931 : Int))) / 2 ^ (min 31 (IntKind.bits
    .u64))))

def m_rng_Source_Next (F : Nat) (p0 : T_rng_Source) : Option (Int × T_rng_Source) :=
  (Option.bind (m_rng_Source_Skip F p0 (1 : Int)) fun v5 => (Option.bind (m_rng_Mix F v5.S) fun v8 => some (v8, v5)))

def m_rng_Source_Below (F : Nat) (p0 : T_rng_Source) (p1 : Int) : Option (Int × T_rng_Source) :=
  (cond (decide (p1 < (1 : Int))) (some ((0 : Int), p0)) (Option.bind (m_rng_Source_Next F p0) fun (v13_0, v13_1) => some ((IntKind.wrap .i64
    ((IntKind.wrap .u64 ((v13_0 / 2 ^ (min 32 (IntKind.bits .u64))) * (IntKind.wrap .u64 (min p1 (2147483648 : Int))))) / 2 ^ (min 32 (IntKind.bits
    .u64)))), v13_1)))

def m_step_revive (F : Nat) (p0 : T_api_State) (p1 : Int) : Option (T_api_State) :=
  (cond (p1 == (0 : Int)) ((Option.bind (m_step_stopped F p0.Players.1) fun v15 => (Option.bind (m_rng_Source_Below F (T_rng_Source.mk p0.Seed) (61441
    : Int)) fun (v24_0, v24_1) => (Option.bind (m_rng_Source_Below F v24_1 (28673 : Int)) fun (v29_0, v29_1) => (Option.bind (m_step_box F
    (T_api_Player.mk (IntKind.wrap .i32 v24_0) (IntKind.wrap .i32 v29_0) v15.VX v15.VY (100 : Int) v15.Cool v15.Face)) fun v45 => (cond ((IntKind.wrap
    .i64 ((1 : Int) - p1)) == (0 : Int)) ((Option.bind (m_step_box F p0.Players.1) fun v53 => (Option.bind (m_geom_Over F v45 v53) fun v54 =>
    (Option.bind ((cond (!v54) (some (T_api_Player.mk (IntKind.wrap .i32 v24_0) (IntKind.wrap .i32 v29_0) v15.VX v15.VY (100 : Int) v15.Cool
    v15.Face)) (some (T_api_Player.mk v15.X v15.Y v15.VX v15.VY (100 : Int) v15.Cool v15.Face)))) fun j20_n4 => some (T_api_State.mk p0.Frame v29_1.S
    (j20_n4, p0.Players.2) p0.Shots p0.Score))))) (cond ((IntKind.wrap .i64 ((1 : Int) - p1)) == (1 : Int)) ((Option.bind (m_step_box F p0.Players.2)
    fun v53 => (Option.bind (m_geom_Over F v45 v53) fun v54 => (Option.bind ((cond (!v54) (some (T_api_Player.mk (IntKind.wrap .i32 v24_0)
    (IntKind.wrap .i32 v29_0) v15.VX v15.VY (100 : Int) v15.Cool v15.Face)) (some (T_api_Player.mk v15.X v15.Y v15.VX v15.VY (100 : Int) v15.Cool
    v15.Face)))) fun j20_n4 => some (T_api_State.mk p0.Frame v29_1.S (j20_n4, p0.Players.2) p0.Shots p0.Score))))) none))))))) (cond (p1 == (1 : Int))
    ((Option.bind (m_step_stopped F p0.Players.2) fun v15 => (Option.bind (m_rng_Source_Below F (T_rng_Source.mk p0.Seed) (61441 : Int)) fun (v24_0,
    v24_1) => (Option.bind (m_rng_Source_Below F v24_1 (28673 : Int)) fun (v29_0, v29_1) => (Option.bind (m_step_box F (T_api_Player.mk (IntKind.wrap
    .i32 v24_0) (IntKind.wrap .i32 v29_0) v15.VX v15.VY (100 : Int) v15.Cool v15.Face)) fun v45 => (cond ((IntKind.wrap .i64 ((1 : Int) - p1)) == (0 :
    Int)) ((Option.bind (m_step_box F p0.Players.1) fun v53 => (Option.bind (m_geom_Over F v45 v53) fun v54 => (Option.bind ((cond (!v54) (some
    (T_api_Player.mk (IntKind.wrap .i32 v24_0) (IntKind.wrap .i32 v29_0) v15.VX v15.VY (100 : Int) v15.Cool v15.Face)) (some (T_api_Player.mk v15.X
    v15.Y v15.VX v15.VY (100 : Int) v15.Cool v15.Face)))) fun j20_n4 => some (T_api_State.mk p0.Frame v29_1.S (p0.Players.1, j20_n4) p0.Shots
    p0.Score))))) (cond ((IntKind.wrap .i64 ((1 : Int) - p1)) == (1 : Int)) ((Option.bind (m_step_box F p0.Players.2) fun v53 => (Option.bind
    (m_geom_Over F v45 v53) fun v54 => (Option.bind ((cond (!v54) (some (T_api_Player.mk (IntKind.wrap .i32 v24_0) (IntKind.wrap .i32 v29_0) v15.VX
    v15.VY (100 : Int) v15.Cool v15.Face)) (some (T_api_Player.mk v15.X v15.Y v15.VX v15.VY (100 : Int) v15.Cool v15.Face)))) fun j20_n4 => some
    (T_api_State.mk p0.Frame v29_1.S (p0.Players.1, j20_n4) p0.Shots p0.Score))))) none))))))) none))

def m_step_Step_L16 (F : Nat) (p1 : (Int × Int)) : Nat → Int → (T_api_Player × T_api_Player) → Option ((T_api_Player × T_api_Player))
  | 0, _, _ => none
  | n + 1, j17_29, j17_n2_f2 =>
      (cond (decide (j17_29 < (2 : Int))) (cond (j17_29 == (0 : Int)) ((Option.bind (m_step_steer F j17_n2_f2.1 p1.1) fun v40 => m_step_Step_L16 F p1
        n (IntKind.wrap .i64 (j17_29 + (1 : Int))) (v40, j17_n2_f2.2))) (cond (j17_29 == (1 : Int)) ((Option.bind (m_step_steer F j17_n2_f2.2 p1.2)
        fun v40 => m_step_Step_L16 F p1 n (IntKind.wrap .i64 (j17_29 + (1 : Int))) (j17_n2_f2.1, v40))) none)) (some j17_n2_f2))

def m_step_Step_L33 (F : Nat) (p1 : (Int × Int)) : Nat → Int → (T_api_Player × T_api_Player) → (List T_api_Shot) → Option ((T_api_Player × T_api_Player) × (List T_api_Shot))
  | 0, _, _, _ => none
  | n + 1, j34_44, j34_n2_f2, j34_n2_f3 =>
      (cond (decide (j34_44 < (2 : Int))) (cond (j34_44 == (0 : Int)) ((Option.bind (m_input_Fire F p1.1) fun v53 => (Option.bind (cond v53 (some
        ((j34_n2_f2.1.Cool == (0 : Int)))) (some (false))) fun v60 => (Option.bind (cond v60 (some ((decide ((j34_n2_f3.length : Int) < (8 : Int)))))
        (some (false))) fun v66 => (cond v66 (Option.bind (m_step_shoot F j34_n2_f2.1 (IntKind.wrap .u8 j34_44)) fun v74 => (Option.bind (appI
        j34_n2_f3 ([v74] : List T_api_Shot)) fun v76 => m_step_Step_L33 F p1 n (IntKind.wrap .i64 (j34_44 + (1 : Int))) ((T_api_Player.mk
        j34_n2_f2.1.X j34_n2_f2.1.Y j34_n2_f2.1.VX j34_n2_f2.1.VY j34_n2_f2.1.Health (10 : Int) j34_n2_f2.1.Face), j34_n2_f2.2) v76)) (m_step_Step_L33
        F p1 n (IntKind.wrap .i64 (j34_44 + (1 : Int))) j34_n2_f2 j34_n2_f3)))))) (cond (j34_44 == (1 : Int)) ((Option.bind (m_input_Fire F p1.2) fun
        v53 => (Option.bind (cond v53 (some ((j34_n2_f2.2.Cool == (0 : Int)))) (some (false))) fun v60 => (Option.bind (cond v60 (some ((decide
        ((j34_n2_f3.length : Int) < (8 : Int))))) (some (false))) fun v66 => (cond v66 (Option.bind (m_step_shoot F j34_n2_f2.2 (IntKind.wrap .u8
        j34_44)) fun v74 => (Option.bind (appI j34_n2_f3 ([v74] : List T_api_Shot)) fun v76 => m_step_Step_L33 F p1 n (IntKind.wrap .i64 (j34_44 + (1
        : Int))) (j34_n2_f2.1, (T_api_Player.mk j34_n2_f2.2.X j34_n2_f2.2.Y j34_n2_f2.2.VX j34_n2_f2.2.VY j34_n2_f2.2.Health (10 : Int)
        j34_n2_f2.2.Face)) v76)) (m_step_Step_L33 F p1 n (IntKind.wrap .i64 (j34_44 + (1 : Int))) j34_n2_f2 j34_n2_f3)))))) none)) (some (j34_n2_f2,
        j34_n2_f3)))

def m_step_Step_L70 (F : Nat) : Nat → Int → Int → Int → (T_api_Player × T_api_Player) → (List T_api_Shot) → (Int × Int) → Option (Int × Int × (T_api_Player × T_api_Player) × (List T_api_Shot) × (Int × Int))
  | 0, _, _, _, _, _, _ => none
  | n + 1, j71_108, j71_n2_f0, j71_n2_f1, j71_n2_f2, j71_n2_f3, j71_n2_f4 =>
      (cond (decide (j71_108 < (2 : Int))) (cond (j71_108 == (0 : Int)) ((cond (j71_n2_f2.1.Health == (0 : Int)) (Option.bind (m_step_revive F
        (T_api_State.mk j71_n2_f0 j71_n2_f1 j71_n2_f2 j71_n2_f3 j71_n2_f4) j71_108) fun o118_0 => m_step_Step_L70 F n (IntKind.wrap .i64 (j71_108 + (1
        : Int))) o118_0.Frame o118_0.Seed o118_0.Players o118_0.Shots o118_0.Score) (m_step_Step_L70 F n (IntKind.wrap .i64 (j71_108 + (1 : Int)))
        j71_n2_f0 j71_n2_f1 j71_n2_f2 j71_n2_f3 j71_n2_f4))) (cond (j71_108 == (1 : Int)) ((cond (j71_n2_f2.2.Health == (0 : Int)) (Option.bind
        (m_step_revive F (T_api_State.mk j71_n2_f0 j71_n2_f1 j71_n2_f2 j71_n2_f3 j71_n2_f4) j71_108) fun o118_0 => m_step_Step_L70 F n (IntKind.wrap
        .i64 (j71_108 + (1 : Int))) o118_0.Frame o118_0.Seed o118_0.Players o118_0.Shots o118_0.Score) (m_step_Step_L70 F n (IntKind.wrap .i64
        (j71_108 + (1 : Int))) j71_n2_f0 j71_n2_f1 j71_n2_f2 j71_n2_f3 j71_n2_f4))) none)) (some (j71_n2_f0, j71_n2_f1, j71_n2_f2, j71_n2_f3,
        j71_n2_f4)))

def m_step_Step (F : Nat) (p0 : T_api_State) (p1 : (Int × Int)) : Option (T_api_State) :=
  (Option.bind (m_state_Copy F p0) fun v12 => (Option.bind (m_state_Check F v12) fun v14 => (Option.bind (cond (v14 != (0 : Int)) (some (true))
    ((Option.bind (m_input_Legal F p1.1) fun v19 => some ((!v19))))) fun v21 => (Option.bind (cond v21 (some (true)) ((Option.bind (m_input_Legal F
    p1.2) fun v25 => some ((!v25))))) fun v27 => (cond v27 (some v12) (Option.bind (m_step_Step_L16 F p1 F (0 : Int) v12.Players) fun l17_n2_f2 =>
    (Option.bind (m_step_Step_L33 F p1 F (0 : Int) l17_n2_f2 v12.Shots) fun (l34_n2_f2, l34_n2_f3) => (Option.bind (m_step_moved F l34_n2_f2.1) fun
    v85 => (Option.bind (m_step_moved F l34_n2_f2.2) fun v89 => (Option.bind (m_step_box F v85) fun v91 => (Option.bind (m_step_box F v89) fun v93 =>
    (Option.bind (m_geom_Over F v91 v93) fun v94 => (Option.bind ((cond v94 (Option.bind (m_step_stopped F l34_n2_f2.1) fun v98 => (Option.bind
    (m_step_stopped F l34_n2_f2.2) fun v102 => some (v98, v102))) (some (v85, v89)))) fun (j60_n8, j60_n9) => (Option.bind (m_step_fly F
    (T_api_State.mk v12.Frame v12.Seed (j60_n8, j60_n9) l34_n2_f3 v12.Score)) fun o107_0 => (Option.bind (m_step_Step_L70 F F (0 : Int) o107_0.Frame
    o107_0.Seed o107_0.Players o107_0.Shots o107_0.Score) fun (l71_n2_f0, l71_n2_f1, l71_n2_f2, l71_n2_f3, l71_n2_f4) => some (T_api_State.mk
    (IntKind.wrap .u64 (l71_n2_f0 + (1 : Int))) l71_n2_f1 l71_n2_f2 l71_n2_f3 l71_n2_f4))))))))))))))))

def m_rollback_Engine_Confirm_nil0 (F : Nat) (p1 : Int) : Option ((Int × Int) × Bool) :=
  (Option.bind (m_rollback_Engine_Next_nil0 F) fun (v10_0, v10_1) => (Option.bind (cond (!v10_1) (some (true)) (none)) fun v23 => (cond v23 (some (((0
    : Int), (0 : Int)), false)) none)))

def m_fold_History_is_nil0 (F : Nat) : Option (Bool) :=
  some false

def m_fold_History_Add_nil0 (F : Nat) (p1 : (Int × Int)) : Option (Int) :=
  (Option.bind (m_fold_History_is_nil0 F) fun v7 => (cond (!v7) (some (1 : Int)) (Option.bind (m_input_Legal F p1.1) fun v12 => (Option.bind (cond
    (!v12) (some (true)) ((Option.bind (m_input_Legal F p1.2) fun v17 => some ((!v17))))) fun v19 => (cond v19 (some (2 : Int)) none)))))

def m_fold_History_is (F : Nat) (p0 : T_fold_History) : Option (Bool) :=
  some (decide ((0 : Int) < p0.most))

def m_fold_History_Add (F : Nat) (p0 : T_fold_History) (p1 : (Int × Int)) : Option (T_fold_History × Int) :=
  (Option.bind (m_fold_History_is F p0) fun v7 => (cond (!v7) (some (p0, (1 : Int))) (Option.bind (m_input_Legal F p1.1) fun v12 => (Option.bind (cond
    (!v12) (some (true)) ((Option.bind (m_input_Legal F p1.2) fun v17 => some ((!v17))))) fun v19 => (cond v19 (some (p0, (2 : Int))) (Option.bind
    (cond ((IntKind.wrap .u64 (p0.count - p0.from_)) == p0.most) (some (true)) (some ((p0.count == (18446744073709551615 : Int))))) fun v41 => (cond
    v41 (some (p0, (7 : Int))) (Option.bind (getI p0.ring.1 (Int.tmod p0.count 256)) fun v51 => some ((T_fold_History.mk p0.from_ (IntKind.wrap .u64
    (p0.count + (1 : Int))) p0.most (Arr.set p0.ring (Int.tmod p0.count 256) p1)), (0 : Int))))))))))

def m_rollback_Engine_is (F : Nat) (p0 : T_rollback_Engine) (p0_4 : T_queue_Queue) (p0_5 : T_ring_Ring) : Option (Bool) :=
  some true

def m_rollback_Engine_Local (F : Nat) (p0 : T_rollback_Engine) (p0_4 : T_queue_Queue) (p0_5 : T_ring_Ring) (p1 : Int) : Option (T_rollback_Engine × Int) :=
  (Option.bind (m_rollback_Engine_is F p0 p0_4 p0_5) fun v7 => (cond (!v7) (some (p0, (1 : Int))) (Option.bind (m_input_Legal F p1) fun v11 => (cond
    (!v11) (some (p0, (2 : Int))) (cond (decide (p0.window ≤ (p0.own.length : Int))) (some (p0, (7 : Int))) (Option.bind (appI p0.own ([p1] : List
    Int)) fun v31 => some ((T_rollback_Engine.mk p0.player p0.window p0.sure v31), (0 : Int))))))))

def m_queue_Queue_Add (F : Nat) (p0 : T_queue_Queue) (p1 : Int) (p2 : Int) : Option (T_queue_Queue × Int) :=
  (Option.bind (m_input_Legal F p2) fun v14 => (cond (!v14) (some (p0, (2 : Int))) (cond (decide (p1 < p0.first_)) (some (p0, (0 : Int))) (Option.bind
    (m_queue_Queue_At F p0 p1) fun (v26_0, v26_1) => (Option.bind (cond v26_1 (some ((v26_0 != p2))) (some (false))) fun v35 => (cond v35 (some (p0,
    (14 : Int))) (cond v26_1 (some (p0, (0 : Int))) (Option.bind (m_queue_Queue_Known F p0) fun v41 => (Option.bind (cond (decide (v41 < p1)) (some
    (true)) (some ((p1 == (18446744073709551615 : Int))))) fun v46 => (cond v46 (some (p0, (11 : Int))) (cond (decide ((24 : Int) ≤ (p0.l.length :
    Int))) (some (p0, (7 : Int))) (Option.bind (appI p0.l ([p2] : List Int)) fun v62 => some ((T_queue_Queue.mk p0.first_ v62 p2), (0 :
    Int))))))))))))))

def m_ring_Ring_Cut_L16 (F : Nat) (p0 : T_ring_Ring) (p1 : Int) : Nat → Int → Int → (Arr T_ring_place 14) → Option (Int × (Arr T_ring_place 14))
  | 0, _, _, _ => none
  | n + 1, j17_5, j17_15, j17_p0_f1 =>
      (cond (decide (j17_15 < (14 : Int))) (Option.bind (getI p0.places.1 j17_15) fun v18 => (Option.bind (cond v18.is_ (some ((decide (p1 <
        v18.s.Frame)))) (some (false))) fun v27 => (cond v27 (Option.bind (getI j17_p0_f1.1 j17_15) fun v33 => m_ring_Ring_Cut_L16 F p0 p1 n
        (IntKind.wrap .i64 (j17_5 + (1 : Int))) (IntKind.wrap .i64 (j17_15 + (1 : Int))) (Arr.set j17_p0_f1 j17_15 (T_ring_place.mk (T_api_State.mk (0
        : Int) (0 : Int) ((T_api_Player.mk (0 : Int) (0 : Int) (0 : Int) (0 : Int) (0 : Int) (0 : Int) (0 : Int)), (T_api_Player.mk (0 : Int) (0 :
        Int) (0 : Int) (0 : Int) (0 : Int) (0 : Int) (0 : Int))) ([] : List T_api_Shot) ((0 : Int), (0 : Int))) false))) (m_ring_Ring_Cut_L16 F p0 p1
        n j17_5 (IntKind.wrap .i64 (j17_15 + (1 : Int))) j17_p0_f1)))) (some (j17_5, j17_p0_f1)))

def m_ring_Ring_Cut (F : Nat) (p0 : T_ring_Ring) (p1 : Int) : Option (T_ring_Ring × Int) :=
  (Option.bind (m_ring_Ring_is F p0) fun v9 => (cond (!v9) (some (p0, (0 : Int))) (Option.bind (m_ring_Ring_Cut_L16 F p0 p1 F (0 : Int) (0 : Int)
    p0.places) fun (l17_5, l17_p0_f1) => some ((T_ring_Ring.mk p0.size l17_p0_f1), l17_5))))

def m_rollback_Engine_Remote (F : Nat) (p0 : T_rollback_Engine) (p0_4 : T_queue_Queue) (p0_5 : T_ring_Ring) (p1 : Int) (p2 : Int) : Option (T_queue_Queue × T_ring_Ring × Int) :=
  (Option.bind (m_rollback_Engine_is F p0 p0_4 p0_5) fun v11 => (cond (!v11) (some (p0_4, p0_5, (1 : Int))) (Option.bind (m_queue_Queue_Known F p0_4)
    fun v17 => (Option.bind (m_queue_Queue_Guess F p0_4 p1) fun v23 => (Option.bind (m_queue_Queue_Add F p0_4 p1 p2) fun (o30_0, v30) => (Option.bind
    (m_queue_Queue_Known F o30_0) fun v35 => (Option.bind (cond (decide (v17 < v35)) (some ((v23 != p2))) (some (false))) fun v42 => (Option.bind
    ((cond v42 (Option.bind (m_ring_Ring_Cut F p0_5 p1) fun (o48_0, v48) => some (o48_0.size, o48_0.places)) (some (p0_5.size, p0_5.places)))) fun
    (j18_p0_5_f0, j18_p0_5_f1) => some (o30_0, (T_ring_Ring.mk j18_p0_5_f0 j18_p0_5_f1), v30)))))))))

def m_rollback_Engine_pair (F : Nat) (p0 : T_rollback_Engine) (p0_4 : T_queue_Queue) (p0_5 : T_ring_Ring) (p1 : Int) : Option ((Int × Int)) :=
  (Option.bind (getI p0.own (IntKind.wrap .u64 (p1 - p0.sure.Frame))) fun v20 => (cond (p0.player == (0 : Int)) ((Option.bind (m_queue_Queue_Guess F
    p0_4 p1) fun v33 => (cond ((IntKind.wrap .u8 ((1 : Int) - p0.player)) == (0 : Int)) (some (v33, (0 : Int))) (cond ((IntKind.wrap .u8 ((1 : Int) -
    p0.player)) == (1 : Int)) (some (v20, v33)) none)))) (cond (p0.player == (1 : Int)) ((Option.bind (m_queue_Queue_Guess F p0_4 p1) fun v33 => (cond
    ((IntKind.wrap .u8 ((1 : Int) - p0.player)) == (0 : Int)) (some (v33, v20)) (cond ((IntKind.wrap .u8 ((1 : Int) - p0.player)) == (1 : Int)) (some
    ((0 : Int), v33)) none)))) none)))

def m_rollback_Engine_Next (F : Nat) (p0 : T_rollback_Engine) (p0_4 : T_queue_Queue) (p0_5 : T_ring_Ring) : Option ((Int × Int) × Bool) :=
  (Option.bind (m_rollback_Engine_is F p0 p0_4 p0_5) fun v5 => (Option.bind (cond (!v5) (some (true)) (some (((p0.own.length : Int) == (0 : Int)))))
    fun v14 => (Option.bind (cond v14 (some (true)) ((Option.bind (m_queue_Queue_Known F p0_4) fun v20 => some ((decide (v20 ≤ p0.sure.Frame)))))) fun
    v27 => (cond v27 (some (((0 : Int), (0 : Int)), false)) (Option.bind (m_rollback_Engine_pair F p0 p0_4 p0_5 p0.sure.Frame) fun v35 => some (v35,
    true))))))

def m_slices_Clone___api_Input_api_Input (F : Nat) (p0 : (List Int)) : Option ((List Int)) :=
  (Option.bind (appI ([] : List Int) p0) fun v7 => some v7)

def m_queue_Queue_Drop (F : Nat) (p0 : T_queue_Queue) (p1 : Int) : Option (T_queue_Queue) :=
  (cond (decide (p1 ≤ p0.first_)) (some p0) (Option.bind (m_queue_Queue_Known F p0) fun v17 => (Option.bind (cutI p0.l (IntKind.wrap .u64 ((min p1
    v17) - p0.first_)) (p0.l.length : Int)) fun v33 => (Option.bind (cutI (copyL p0.l v33) 0 ((min v33.length p0.l.length : Nat) : Int)) fun v42 =>
    some (T_queue_Queue.mk (min p1 v17) v42 p0.last)))))

def m_rollback_Engine_Confirm (F : Nat) (p0 : T_rollback_Engine) (p0_4 : T_queue_Queue) (p0_5 : T_ring_Ring) (p1 : Int) : Option (T_rollback_Engine × T_queue_Queue × T_ring_Ring × (Int × Int) × Bool) :=
  (Option.bind (m_rollback_Engine_Next F p0 p0_4 p0_5) fun (v10_0, v10_1) => (Option.bind (cond (!v10_1) (some (true)) (some ((decide (p1 ≤
    p0.sure.Frame))))) fun v23 => (cond v23 (some (p0, p0_4, p0_5, ((0 : Int), (0 : Int)), false)) (Option.bind (m_step_Step F p0.sure v10_0) fun v31
    => (Option.bind (cutI p0.own (1 : Int) (p0.own.length : Int)) fun v39 => (Option.bind (m_slices_Clone___api_Input_api_Input F v39) fun v40 =>
    (Option.bind (m_queue_Queue_Drop F p0_4 v31.Frame) fun o52_0 => (Option.bind (m_ring_Ring_Put F p0_5 v31) fun (o61_0, v61) => some
    ((T_rollback_Engine.mk p0.player p0.window v31 v40), o52_0, o61_0, v10_0, true)))))))))

def m_fold_History_At (F : Nat) (p0 : T_fold_History) (p1 : Int) : Option ((Int × Int) × Bool) :=
  (Option.bind (m_fold_History_is F p0) fun v7 => (Option.bind (cond v7 (some ((decide (p0.from_ ≤ p1)))) (some (false))) fun v15 => (Option.bind
    (cond v15 (some ((decide (p1 < p0.count)))) (some (false))) fun v23 => (cond v23 (Option.bind (getI p0.ring.1 (Int.tmod p1 256)) fun v30 => some
    (v30, v23)) (some (((0 : Int), (0 : Int)), v23))))))

def m_fold_History_Slice_L6 (F : Nat) (p0 : T_fold_History) (p2 : Int) : Nat → Int → (List (Int × Int)) → Int → Option ((List (Int × Int)))
  | 0, _, _, _ => none
  | n + 1, j7_1, j7_6, j7_10 =>
      (cond (decide (j7_10 < p2)) (Option.bind (m_fold_History_At F p0 j7_1) fun (v15_0, v15_1) => (cond (!v15_1) (some j7_6) (Option.bind (appI j7_6
        ([v15_0] : List (Int × Int))) fun v23 => m_fold_History_Slice_L6 F p0 p2 n (IntKind.wrap .u64 (j7_1 + (1 : Int))) v23 (IntKind.wrap .i64
        (j7_10 + (1 : Int)))))) (some j7_6))

def m_fold_History_Slice (F : Nat) (p0 : T_fold_History) (p1 : Int) (p2 : Int) : Option ((List (Int × Int))) :=
  (Option.bind (m_fold_History_Slice_L6 F p0 p2 F p1 ([] : List (Int × Int)) (0 : Int)) fun l7_6 => some l7_6)

def m_backfill_Plan (F : Nat) (p0 : T_fold_History) (p1 : Int) : Option (Int × Int) :=
  (Option.bind (m_fold_History_Slice F p0 p1 (32 : Int)) fun v8 => (cond ((v8.length : Int) == (0 : Int)) (some ((0 : Int), (0 : Int))) (some (p1,
    (v8.length : Int)))))

def m_rollback_Engine_C (F : Nat) (p0 : T_rollback_Engine) (p0_4 : T_queue_Queue) (p0_5 : T_ring_Ring) : Option (Int) :=
  (Option.bind (m_rollback_Engine_is F p0 p0_4 p0_5) fun v4 => (cond (!v4) (some (0 : Int)) (some p0.sure.Frame)))

def m_rollback_Engine_Own (F : Nat) (p0 : T_rollback_Engine) (p0_4 : T_queue_Queue) (p0_5 : T_ring_Ring) : Option ((List Int)) :=
  (Option.bind (m_rollback_Engine_is F p0 p0_4 p0_5) fun v4 => (cond (!v4) (some ([] : List Int)) (Option.bind (m_slices_Clone___api_Input_api_Input F
    p0.own) fun v10 => some v10)))

def m_rollback_Engine_T (F : Nat) (p0 : T_rollback_Engine) (p0_4 : T_queue_Queue) (p0_5 : T_ring_Ring) : Option (Int) :=
  (Option.bind (m_rollback_Engine_C F p0 p0_4 p0_5) fun v4 => (Option.bind (m_rollback_Engine_Own F p0 p0_4 p0_5) fun v6 => some (IntKind.wrap .u64
    (v4 + (IntKind.wrap .u64 (v6.length : Int))))))

def m_backfill_Pairs_1 (F : Nat) (p0 : Int) (p1 : (Int × Int)) (p2 : Unit) (p2_o : T_fold_History) (p3 : Unit) (p3_o : T_rollback_Engine) (p3_o_4 : T_queue_Queue) (p3_o_5 : T_ring_Ring) (p4 : Int) : Option (T_queue_Queue × T_ring_Ring × Int) :=
  (Option.bind (m_fold_History_At F p2_o p0) fun (v13_0, v13_1) => (Option.bind (m_rollback_Engine_C F p3_o p3_o_4 p3_o_5) fun v19 => (cond (decide
    (p0 < v19)) (Option.bind (cond v13_1 (some ((!((v13_0.1 == p1.1) && (v13_0.2 == p1.2))))) (some (false))) fun v26 => (cond v26 (some (p3_o_4,
    p3_o_5, (14 : Int))) (some (p3_o_4, p3_o_5, (0 : Int))))) (Option.bind (m_rollback_Engine_T F p3_o p3_o_4 p3_o_5) fun v30 => (cond (decide (v30 ≤
    p0)) (some (p3_o_4, p3_o_5, (11 : Int))) (cond (p4 == (0 : Int)) ((Option.bind (m_rollback_Engine_Own F p3_o p3_o_4 p3_o_5) fun v34 =>
    (Option.bind (m_rollback_Engine_C F p3_o p3_o_4 p3_o_5) fun v37 => (Option.bind (getI v34 (IntKind.wrap .u64 (p0 - v37))) fun v39 => (cond (v39 !=
    p1.1) (some (p3_o_4, p3_o_5, (14 : Int))) (cond ((IntKind.wrap .u8 ((1 : Int) - p4)) == (0 : Int)) ((Option.bind (m_rollback_Engine_Remote F p3_o
    p3_o_4 p3_o_5 p0 p1.1) fun (o51_1, o51_2, v51) => some (o51_1, o51_2, v51))) (cond ((IntKind.wrap .u8 ((1 : Int) - p4)) == (1 : Int))
    ((Option.bind (m_rollback_Engine_Remote F p3_o p3_o_4 p3_o_5 p0 p1.2) fun (o51_1, o51_2, v51) => some (o51_1, o51_2, v51))) none))))))) (cond (p4
    == (1 : Int)) ((Option.bind (m_rollback_Engine_Own F p3_o p3_o_4 p3_o_5) fun v34 => (Option.bind (m_rollback_Engine_C F p3_o p3_o_4 p3_o_5) fun
    v37 => (Option.bind (getI v34 (IntKind.wrap .u64 (p0 - v37))) fun v39 => (cond (v39 != p1.2) (some (p3_o_4, p3_o_5, (14 : Int))) (cond
    ((IntKind.wrap .u8 ((1 : Int) - p4)) == (0 : Int)) ((Option.bind (m_rollback_Engine_Remote F p3_o p3_o_4 p3_o_5 p0 p1.1) fun (o51_1, o51_2, v51)
    => some (o51_1, o51_2, v51))) (cond ((IntKind.wrap .u8 ((1 : Int) - p4)) == (1 : Int)) ((Option.bind (m_rollback_Engine_Remote F p3_o p3_o_4
    p3_o_5 p0 p1.2) fun (o51_1, o51_2, v51) => some (o51_1, o51_2, v51))) none))))))) none)))))))

def m_backfill_Pairs_L100021 (F : Nat) (p0 : T_rollback_Engine) (p1 : T_fold_History) (p2 : Int) (p3 : Int) (p4 : (List (Int × Int))) : Nat → Int → Int → Int → (List Int) → Int → Int → (Arr T_ring_place 14) → Option ((Int × Int × (List Int) × Int × Int × (Arr T_ring_place 14)) ⊕ (Int × Int × Int × (List Int) × Int × Int × (Arr T_ring_place 14)))
  | 0, _, _, _, _, _, _, _ => none
  | n + 1, j100022_100012, j100022_100037, j100022_p0_4_f0, j100022_p0_4_f1, j100022_p0_4_f2, j100022_p0_5_f0, j100022_p0_5_f1 =>
      (cond (decide (j100022_100037 < (p4.length : Int))) (Option.bind (getI p4 j100022_100037) fun v100039 => (Option.bind (m_backfill_Pairs_1 F
        (IntKind.wrap .u64 (p3 + (IntKind.wrap .u64 j100022_100012))) v100039 () p1 () p0 (T_queue_Queue.mk j100022_p0_4_f0 j100022_p0_4_f1
        j100022_p0_4_f2) (T_ring_Ring.mk j100022_p0_5_f0 j100022_p0_5_f1) p2) fun (o100047_6, o100047_7, v100047) => (cond (v100047 != (0 : Int))
        (some (.inr (j100022_100012, v100047, o100047_6.first_, o100047_6.l, o100047_6.last, o100047_7.size, o100047_7.places)))
        (m_backfill_Pairs_L100021 F p0 p1 p2 p3 p4 n (IntKind.wrap .i64 (j100022_100012 + (1 : Int))) (IntKind.wrap .i64 (j100022_100037 + (1 : Int)))
        o100047_6.first_ o100047_6.l o100047_6.last o100047_7.size o100047_7.places)))) (some (.inl (j100022_100012, j100022_p0_4_f0, j100022_p0_4_f1,
        j100022_p0_4_f2, j100022_p0_5_f0, j100022_p0_5_f1))))

def m_backfill_Pairs (F : Nat) (p0 : T_rollback_Engine) (p0_4 : T_queue_Queue) (p0_5 : T_ring_Ring) (p1 : T_fold_History) (p2 : Int) (p3 : Int) (p4 : (List (Int × Int))) : Option (T_queue_Queue × T_ring_Ring × Int × Int) :=
  (Option.bind (cond (decide ((1 : Int) < p2)) (some (true)) (some ((decide ((IntKind.wrap .u64 ((18446744073709551615 : Int) - p3)) < (IntKind.wrap
    .u64 (p4.length : Int))))))) fun v100034 => (cond v100034 (some (p0_4, p0_5, (0 : Int), (2 : Int))) (Option.bind (m_backfill_Pairs_L100021 F p0 p1
    p2 p3 p4 F (0 : Int) (0 : Int) p0_4.first_ p0_4.l p0_4.last p0_5.size p0_5.places) (orE (fun (l100022_100012, l100022_p0_4_f0, l100022_p0_4_f1,
    l100022_p0_4_f2, l100022_p0_5_f0, l100022_p0_5_f1) => some ((T_queue_Queue.mk l100022_p0_4_f0 l100022_p0_4_f1 l100022_p0_4_f2), (T_ring_Ring.mk
    l100022_p0_5_f0 l100022_p0_5_f1), l100022_100012, (0 : Int))) (fun (l100022_100012, l100022_100013, l100022_p0_4_f0, l100022_p0_4_f1,
    l100022_p0_4_f2, l100022_p0_5_f0, l100022_p0_5_f1) => some ((T_queue_Queue.mk l100022_p0_4_f0 l100022_p0_4_f1 l100022_p0_4_f2), (T_ring_Ring.mk
    l100022_p0_5_f0 l100022_p0_5_f1), l100022_100012, l100022_100013))))))

def m_hindcastlaw28_pairs (F : Nat) (p0 : T_rollback_Engine) (p0_4 : T_queue_Queue) (p0_5 : T_ring_Ring) (p1 : T_fold_History) (p2 : Int) (p3 : (List (Int × Int))) : Option (T_queue_Queue × T_ring_Ring × Int) :=
  (Option.bind (m_backfill_Pairs F p0 p0_4 p0_5 p1 (0 : Int) p2 p3) fun (o16_1, o16_2, v16_0, v16_1) => some (o16_1, o16_2, (IntKind.wrap .i64 (v16_0
    + (IntKind.wrap .i64 ((100 : Int) * v16_1))))))

def m_rollback_Engine_Known (F : Nat) (p0 : T_rollback_Engine) (p0_4 : T_queue_Queue) (p0_5 : T_ring_Ring) : Option (Int) :=
  (Option.bind (m_rollback_Engine_is F p0 p0_4 p0_5) fun v4 => (cond (!v4) (some (0 : Int)) (Option.bind (m_queue_Queue_Known F p0_4) fun v10 => some
    v10)))

def m_hindcastlaw28_works_L100010 (F : Nat) : Nat → Int → Option Unit
  | 0, _ => none
  | n + 1, j100011_100004 =>
      (cond (decide (j100011_100004 < (3 : Int))) (Option.bind (m_rollback_Engine_Local_nil0 F (2 : Int)) fun v100013 => m_hindcastlaw28_works_L100010
        F n (IntKind.wrap .i64 (j100011_100004 + (1 : Int)))) (some ()))

def m_hindcastlaw28_works_L100010_1 (F : Nat) : Nat → Int → Option Unit
  | 0, _ => none
  | n + 1, j100011_100004 =>
      (cond (decide (j100011_100004 < (3 : Int))) (Option.bind (m_rollback_Engine_Local_nil0 F (2 : Int)) fun v100013 =>
        m_hindcastlaw28_works_L100010_1 F n (IntKind.wrap .i64 (j100011_100004 + (1 : Int)))) (some ()))

def m_hindcastlaw28_works_L100010_2 (F : Nat) (v100006s : (T_rollback_Engine × T_queue_Queue × T_ring_Ring)) : Nat → Int → Int → Int → Int → Int → (T_api_Player × T_api_Player) → (List T_api_Shot) → (Int × Int) → (List Int) → Option (Int × Int × Int × Int × (T_api_Player × T_api_Player) × (List T_api_Shot) × (Int × Int) × (List Int))
  | 0, _, _, _, _, _, _, _, _, _ => none
  | n + 1, j100011_100004, j100011_n100006_0_f0, j100011_n100006_0_f1, j100011_n100006_0_f2_0, j100011_n100006_0_f2_1, j100011_n100006_0_f2_2, j100011_n100006_0_f2_3, j100011_n100006_0_f2_4, j100011_n100006_0_f3 =>
      (cond (decide (j100011_100004 < (3 : Int))) (Option.bind (m_rollback_Engine_Local F (T_rollback_Engine.mk j100011_n100006_0_f0
        j100011_n100006_0_f1 (T_api_State.mk j100011_n100006_0_f2_0 j100011_n100006_0_f2_1 j100011_n100006_0_f2_2 j100011_n100006_0_f2_3
        j100011_n100006_0_f2_4) j100011_n100006_0_f3) v100006s.2.1 v100006s.2.2 (2 : Int)) fun (o100013_0, v100013) => m_hindcastlaw28_works_L100010_2
        F v100006s n (IntKind.wrap .i64 (j100011_100004 + (1 : Int))) o100013_0.player o100013_0.window o100013_0.sure.Frame o100013_0.sure.Seed
        o100013_0.sure.Players o100013_0.sure.Shots o100013_0.sure.Score o100013_0.own) (some (j100011_n100006_0_f0, j100011_n100006_0_f1,
        j100011_n100006_0_f2_0, j100011_n100006_0_f2_1, j100011_n100006_0_f2_2, j100011_n100006_0_f2_3, j100011_n100006_0_f2_4,
        j100011_n100006_0_f3)))

def m_hindcastlaw28_works_L100010_3 (F : Nat) (v100006s : (T_rollback_Engine × T_queue_Queue × T_ring_Ring)) : Nat → Int → Int → Int → Int → Int → (T_api_Player × T_api_Player) → (List T_api_Shot) → (Int × Int) → (List Int) → Option (Int × Int × Int × Int × (T_api_Player × T_api_Player) × (List T_api_Shot) × (Int × Int) × (List Int))
  | 0, _, _, _, _, _, _, _, _, _ => none
  | n + 1, j100011_100004, j100011_n100006_0_f0, j100011_n100006_0_f1, j100011_n100006_0_f2_0, j100011_n100006_0_f2_1, j100011_n100006_0_f2_2, j100011_n100006_0_f2_3, j100011_n100006_0_f2_4, j100011_n100006_0_f3 =>
      (cond (decide (j100011_100004 < (3 : Int))) (Option.bind (m_rollback_Engine_Local F (T_rollback_Engine.mk j100011_n100006_0_f0
        j100011_n100006_0_f1 (T_api_State.mk j100011_n100006_0_f2_0 j100011_n100006_0_f2_1 j100011_n100006_0_f2_2 j100011_n100006_0_f2_3
        j100011_n100006_0_f2_4) j100011_n100006_0_f3) v100006s.2.1 v100006s.2.2 (2 : Int)) fun (o100013_0, v100013) => m_hindcastlaw28_works_L100010_3
        F v100006s n (IntKind.wrap .i64 (j100011_100004 + (1 : Int))) o100013_0.player o100013_0.window o100013_0.sure.Frame o100013_0.sure.Seed
        o100013_0.sure.Players o100013_0.sure.Shots o100013_0.sure.Score o100013_0.own) (some (j100011_n100006_0_f0, j100011_n100006_0_f1,
        j100011_n100006_0_f2_0, j100011_n100006_0_f2_1, j100011_n100006_0_f2_2, j100011_n100006_0_f2_3, j100011_n100006_0_f2_4,
        j100011_n100006_0_f3)))

def m_hindcastlaw28_works (F : Nat) : Option (Bool) :=
  (Option.bind (m_state_Start F (7 : Int)) fun v100005 => (Option.bind (m_rollback_New F v100005 (0 : Int) (4 : Int)) fun v100006 => poE ((Option.bind
    (m_fold_New F (0 : Int) (256 : Int)) fun v100007 => poE ((Option.bind (m_hindcastlaw28_works_L100010 F F (0 : Int)) fun _ => (Option.bind
    (m_rollback_Engine_Remote_nil0 F (0 : Int) (1 : Int)) fun v100015 => (Option.bind (m_rollback_Engine_Confirm_nil0 F (1 : Int)) fun (v100017_0,
    v100017_1) => (Option.bind (m_fold_History_Add_nil0 F ((2 : Int), (1 : Int))) fun v100020 => some false))))) (fun v100007s => (Option.bind
    (m_hindcastlaw28_works_L100010_1 F F (0 : Int)) fun _ => (Option.bind (m_rollback_Engine_Remote_nil0 F (0 : Int) (1 : Int)) fun v100015 =>
    (Option.bind (m_rollback_Engine_Confirm_nil0 F (1 : Int)) fun (v100017_0, v100017_1) => (Option.bind (m_fold_History_Add F v100007s ((2 : Int), (1
    : Int))) fun (o100020_0, v100020) => some false))))) v100007)) (fun v100006s => (Option.bind (m_fold_New F (0 : Int) (256 : Int)) fun v100007 =>
    poE ((Option.bind (m_hindcastlaw28_works_L100010_2 F v100006s F (0 : Int) v100006s.1.player v100006s.1.window v100006s.1.sure.Frame
    v100006s.1.sure.Seed v100006s.1.sure.Players v100006s.1.sure.Shots v100006s.1.sure.Score v100006s.1.own) fun (l100011_n100006_0_f0,
    l100011_n100006_0_f1, l100011_n100006_0_f2_0, l100011_n100006_0_f2_1, l100011_n100006_0_f2_2, l100011_n100006_0_f2_3, l100011_n100006_0_f2_4,
    l100011_n100006_0_f3) => (Option.bind (m_rollback_Engine_Remote F (T_rollback_Engine.mk l100011_n100006_0_f0 l100011_n100006_0_f1 (T_api_State.mk
    l100011_n100006_0_f2_0 l100011_n100006_0_f2_1 l100011_n100006_0_f2_2 l100011_n100006_0_f2_3 l100011_n100006_0_f2_4) l100011_n100006_0_f3)
    v100006s.2.1 v100006s.2.2 (0 : Int) (1 : Int)) fun (o100015_1, o100015_2, v100015) => (Option.bind (m_rollback_Engine_Confirm F
    (T_rollback_Engine.mk l100011_n100006_0_f0 l100011_n100006_0_f1 (T_api_State.mk l100011_n100006_0_f2_0 l100011_n100006_0_f2_1
    l100011_n100006_0_f2_2 l100011_n100006_0_f2_3 l100011_n100006_0_f2_4) l100011_n100006_0_f3) o100015_1 o100015_2 (1 : Int)) fun (o100017_0,
    o100017_1, o100017_2, v100017_0, v100017_1) => (Option.bind (m_fold_History_Add_nil0 F ((2 : Int), (1 : Int))) fun v100020 => some false))))) (fun
    v100007s => (Option.bind (m_hindcastlaw28_works_L100010_3 F v100006s F (0 : Int) v100006s.1.player v100006s.1.window v100006s.1.sure.Frame
    v100006s.1.sure.Seed v100006s.1.sure.Players v100006s.1.sure.Shots v100006s.1.sure.Score v100006s.1.own) fun (l100011_n100006_0_f0,
    l100011_n100006_0_f1, l100011_n100006_0_f2_0, l100011_n100006_0_f2_1, l100011_n100006_0_f2_2, l100011_n100006_0_f2_3, l100011_n100006_0_f2_4,
    l100011_n100006_0_f3) => (Option.bind (m_rollback_Engine_Remote F (T_rollback_Engine.mk l100011_n100006_0_f0 l100011_n100006_0_f1 (T_api_State.mk
    l100011_n100006_0_f2_0 l100011_n100006_0_f2_1 l100011_n100006_0_f2_2 l100011_n100006_0_f2_3 l100011_n100006_0_f2_4) l100011_n100006_0_f3)
    v100006s.2.1 v100006s.2.2 (0 : Int) (1 : Int)) fun (o100015_1, o100015_2, v100015) => (Option.bind (m_rollback_Engine_Confirm F
    (T_rollback_Engine.mk l100011_n100006_0_f0 l100011_n100006_0_f1 (T_api_State.mk l100011_n100006_0_f2_0 l100011_n100006_0_f2_1
    l100011_n100006_0_f2_2 l100011_n100006_0_f2_3 l100011_n100006_0_f2_4) l100011_n100006_0_f3) o100015_1 o100015_2 (1 : Int)) fun (o100017_0,
    o100017_1, o100017_2, v100017_0, v100017_1) => (Option.bind (m_fold_History_Add F v100007s ((2 : Int), (1 : Int))) fun (o100020_0, v100020) =>
    (Option.bind (m_backfill_Plan F o100020_0 (0 : Int)) fun (v17_0, v17_1) => (Option.bind (cond (v17_0 == (0 : Int)) (some ((v17_1 == (1 : Int))))
    (some (false))) fun v25 => (Option.bind (cond v25 ((Option.bind (m_hindcastlaw28_pairs F o100017_0 o100017_1 o100017_2 o100020_0 (0 : Int) ([((2 :
    Int), (1 : Int)), ((2 : Int), (5 : Int))] : List (Int × Int))) fun (o32_1, o32_2, v32) => some ((v32 == (2 : Int)), o32_1.first_, o32_1.l,
    o32_1.last, o32_2.size, o32_2.places))) (some (false, o100017_1.first_, o100017_1.l, o100017_1.last, o100017_2.size, o100017_2.places))) fun (v34,
    g34_n100006_0_4_f0, g34_n100006_0_4_f1, g34_n100006_0_4_f2, g34_n100006_0_5_f0, g34_n100006_0_5_f1) => (Option.bind (cond v34 ((Option.bind
    (m_rollback_Engine_Known F o100017_0 (T_queue_Queue.mk g34_n100006_0_4_f0 g34_n100006_0_4_f1 g34_n100006_0_4_f2) (T_ring_Ring.mk
    g34_n100006_0_5_f0 g34_n100006_0_5_f1)) fun v37 => some ((v37 == (2 : Int))))) (some (false))) fun v39 => (Option.bind (cond v39 ((Option.bind
    (m_hindcastlaw28_pairs F o100017_0 (T_queue_Queue.mk g34_n100006_0_4_f0 g34_n100006_0_4_f1 g34_n100006_0_4_f2) (T_ring_Ring.mk g34_n100006_0_5_f0
    g34_n100006_0_5_f1) o100020_0 (0 : Int) ([((2 : Int), (3 : Int))] : List (Int × Int))) fun (o45_1, o45_2, v45) => some ((v45 == (1400 : Int)),
    o45_1.first_, o45_1.l, o45_1.last, o45_2.size, o45_2.places))) (some (false, g34_n100006_0_4_f0, g34_n100006_0_4_f1, g34_n100006_0_4_f2,
    g34_n100006_0_5_f0, g34_n100006_0_5_f1))) fun (v47, g47_n100006_0_4_f0, g47_n100006_0_4_f1, g47_n100006_0_4_f2, g47_n100006_0_5_f0,
    g47_n100006_0_5_f1) => some v47)))))))))) v100007)) v100006))

def m_hindcastlaw28_at (F : Nat) (p0 : (List Int)) (p1 : Int) : Option (Int) :=
  (cond (decide (p1 < (p0.length : Int))) (Option.bind (getI p0 p1) fun v11 => some (Int.tmod v11 64)) (some (0 : Int)))

def m_hindcastlaw28_Setup_pair (F : Nat) (p0 : T_hindcastlaw28_Setup) (p1 : Int) : Option ((Int × Int)) :=
  (Option.bind (m_hindcastlaw28_at F p0.Mine p1) fun v13 => (cond ((Int.tmod p0.Player 2) == (0 : Int)) ((Option.bind (m_hindcastlaw28_at F p0.Theirs
    p1) fun v22 => (cond ((IntKind.wrap .u8 ((1 : Int) - (Int.tmod p0.Player 2))) == (0 : Int)) (some (v22, (0 : Int))) (cond ((IntKind.wrap .u8 ((1 :
    Int) - (Int.tmod p0.Player 2))) == (1 : Int)) (some (v13, v22)) none)))) (cond ((Int.tmod p0.Player 2) == (1 : Int)) ((Option.bind
    (m_hindcastlaw28_at F p0.Theirs p1) fun v22 => (cond ((IntKind.wrap .u8 ((1 : Int) - (Int.tmod p0.Player 2))) == (0 : Int)) (some (v22, v13))
    (cond ((IntKind.wrap .u8 ((1 : Int) - (Int.tmod p0.Player 2))) == (1 : Int)) (some ((0 : Int), v22)) none)))) none)))

def m_fold_History_Drop_nil0 (F : Nat) (p1 : Int) : Option Unit :=
  (Option.bind (m_fold_History_is_nil0 F) fun v5 => (cond v5 none (some ())))

def m_fold_History_Drop (F : Nat) (p0 : T_fold_History) (p1 : Int) : Option (T_fold_History) :=
  (Option.bind (m_fold_History_is F p0) fun v5 => (cond v5 (some (T_fold_History.mk (max p0.from_ (min p1 p0.count)) p0.count p0.most p0.ring)) (some
    p0)))

def m_fold_History_At_nil0 (F : Nat) (p1 : Int) : Option ((Int × Int) × Bool) :=
  (Option.bind (m_fold_History_is_nil0 F) fun v7 => (Option.bind (cond v7 (none) (some (false))) fun v15 => (Option.bind (cond v15 (none) (some
    (false))) fun v23 => (cond v23 none (some (((0 : Int), (0 : Int)), v23))))))

def m_fold_History_Slice_nil0_L6 (F : Nat) (p2 : Int) : Nat → Int → (List (Int × Int)) → Int → Option ((List (Int × Int)))
  | 0, _, _, _ => none
  | n + 1, j7_1, j7_6, j7_10 =>
      (cond (decide (j7_10 < p2)) (Option.bind (m_fold_History_At_nil0 F j7_1) fun (v15_0, v15_1) => (cond (!v15_1) (some j7_6) (Option.bind (appI
        j7_6 ([v15_0] : List (Int × Int))) fun v23 => m_fold_History_Slice_nil0_L6 F p2 n (IntKind.wrap .u64 (j7_1 + (1 : Int))) v23 (IntKind.wrap
        .i64 (j7_10 + (1 : Int)))))) (some j7_6))

def m_fold_History_Slice_nil0 (F : Nat) (p1 : Int) (p2 : Int) : Option ((List (Int × Int))) :=
  (Option.bind (m_fold_History_Slice_nil0_L6 F p2 F p1 ([] : List (Int × Int)) (0 : Int)) fun l7_6 => some l7_6)

def m_backfill_Plan_nil0 (F : Nat) (p1 : Int) : Option (Int × Int) :=
  (Option.bind (m_fold_History_Slice_nil0 F p1 (32 : Int)) fun v8 => (cond ((v8.length : Int) == (0 : Int)) (some ((0 : Int), (0 : Int))) (some (p1,
    (v8.length : Int)))))

def m_fold_History_Count (F : Nat) (p0 : T_fold_History) : Option (Int) :=
  (Option.bind (m_fold_History_is F p0) fun v4 => (cond (!v4) (some (0 : Int)) (some p0.count)))

def m_hindcastlaw28_BackfillFills_L100012 (F : Nat) (p0 : T_hindcastlaw28_Setup) : Nat → Int → Option Unit
  | 0, _ => none
  | n + 1, j100013_100007 =>
      (cond (decide (j100013_100007 < (IntKind.wrap .i64 (Int.tmod p0.Sure 60)))) (Option.bind (m_hindcastlaw28_at F p0.Mine j100013_100007) fun
        v100036 => (Option.bind (m_rollback_Engine_Local_nil0 F v100036) fun v100037 => (Option.bind (m_hindcastlaw28_at F p0.Theirs j100013_100007)
        fun v100044 => (Option.bind (m_rollback_Engine_Remote_nil0 F (IntKind.wrap .u64 j100013_100007) v100044) fun v100045 => (Option.bind
        (m_rollback_Engine_Confirm_nil0 F (IntKind.wrap .u64 (IntKind.wrap .i64 (j100013_100007 + (1 : Int))))) fun (v100050_0, v100050_1) =>
        (Option.bind (m_hindcastlaw28_Setup_pair F (T_hindcastlaw28_Setup.mk p0.Seed p0.Player p0.Window p0.Sure (IntKind.wrap .u8 (IntKind.wrap .i64
        ((1 : Int) + (IntKind.wrap .i64 (Int.tmod p0.Window 12))))) (0 : Int) (0 : Int) p0.Mine p0.Theirs) j100013_100007) fun v100054 => (Option.bind
        (m_fold_History_Add_nil0 F v100054) fun v100055 => m_hindcastlaw28_BackfillFills_L100012 F p0 n (IntKind.wrap .i64 (j100013_100007 + (1 :
        Int)))))))))) (some ()))

def m_hindcastlaw28_BackfillFills_L100033 (F : Nat) (p0 : T_hindcastlaw28_Setup) : Nat → Int → Option Unit
  | 0, _ => none
  | n + 1, j100034_100008 =>
      (cond (decide (j100034_100008 < (IntKind.wrap .i64 ((IntKind.wrap .i64 (Int.tmod p0.Sure 60)) + (IntKind.wrap .i64 (Int.tmod (IntKind.wrap .u8
        (IntKind.wrap .i64 ((1 : Int) + (IntKind.wrap .i64 (Int.tmod p0.Window 12))))) 13)))))) (Option.bind (m_hindcastlaw28_at F p0.Mine
        j100034_100008) fun v100071 => (Option.bind (m_rollback_Engine_Local_nil0 F v100071) fun v100072 => m_hindcastlaw28_BackfillFills_L100033 F p0
        n (IntKind.wrap .i64 (j100034_100008 + (1 : Int))))) (some ()))

def m_hindcastlaw28_BackfillFills_L100048 (F : Nat) (p0 : T_hindcastlaw28_Setup) : Nat → Int → Option Unit
  | 0, _ => none
  | n + 1, j100049_100009 =>
      (cond (decide (j100049_100009 < (IntKind.wrap .i64 ((IntKind.wrap .i64 (Int.tmod p0.Sure 60)) + (IntKind.wrap .i64 (Int.tmod (0 : Int) 13))))))
        (Option.bind (m_hindcastlaw28_at F p0.Theirs j100049_100009) fun v100090 => (Option.bind (m_rollback_Engine_Remote_nil0 F (IntKind.wrap .u64
        j100049_100009) v100090) fun v100091 => m_hindcastlaw28_BackfillFills_L100048 F p0 n (IntKind.wrap .i64 (j100049_100009 + (1 : Int))))) (some
        ()))

def m_hindcastlaw28_BackfillFills_L100012_1 (F : Nat) (p0 : T_hindcastlaw28_Setup) : Nat → Int → T_fold_History → Option (T_fold_History)
  | 0, _, _ => none
  | n + 1, j100013_100007, j100013_n100022_0 =>
      (cond (decide (j100013_100007 < (IntKind.wrap .i64 (Int.tmod p0.Sure 60)))) (Option.bind (m_hindcastlaw28_at F p0.Mine j100013_100007) fun
        v100036 => (Option.bind (m_rollback_Engine_Local_nil0 F v100036) fun v100037 => (Option.bind (m_hindcastlaw28_at F p0.Theirs j100013_100007)
        fun v100044 => (Option.bind (m_rollback_Engine_Remote_nil0 F (IntKind.wrap .u64 j100013_100007) v100044) fun v100045 => (Option.bind
        (m_rollback_Engine_Confirm_nil0 F (IntKind.wrap .u64 (IntKind.wrap .i64 (j100013_100007 + (1 : Int))))) fun (v100050_0, v100050_1) =>
        (Option.bind (m_hindcastlaw28_Setup_pair F (T_hindcastlaw28_Setup.mk p0.Seed p0.Player p0.Window p0.Sure (IntKind.wrap .u8 (IntKind.wrap .i64
        ((1 : Int) + (IntKind.wrap .i64 (Int.tmod p0.Window 12))))) (0 : Int) (0 : Int) p0.Mine p0.Theirs) j100013_100007) fun v100054 => (Option.bind
        (m_fold_History_Add F j100013_n100022_0 v100054) fun (o100055_0, v100055) => m_hindcastlaw28_BackfillFills_L100012_1 F p0 n (IntKind.wrap .i64
        (j100013_100007 + (1 : Int))) o100055_0))))))) (some j100013_n100022_0))

def m_hindcastlaw28_BackfillFills_L100033_1 (F : Nat) (p0 : T_hindcastlaw28_Setup) : Nat → Int → Option Unit
  | 0, _ => none
  | n + 1, j100034_100008 =>
      (cond (decide (j100034_100008 < (IntKind.wrap .i64 ((IntKind.wrap .i64 (Int.tmod p0.Sure 60)) + (IntKind.wrap .i64 (Int.tmod (IntKind.wrap .u8
        (IntKind.wrap .i64 ((1 : Int) + (IntKind.wrap .i64 (Int.tmod p0.Window 12))))) 13)))))) (Option.bind (m_hindcastlaw28_at F p0.Mine
        j100034_100008) fun v100071 => (Option.bind (m_rollback_Engine_Local_nil0 F v100071) fun v100072 => m_hindcastlaw28_BackfillFills_L100033_1 F
        p0 n (IntKind.wrap .i64 (j100034_100008 + (1 : Int))))) (some ()))

def m_hindcastlaw28_BackfillFills_L100048_1 (F : Nat) (p0 : T_hindcastlaw28_Setup) : Nat → Int → Option Unit
  | 0, _ => none
  | n + 1, j100049_100009 =>
      (cond (decide (j100049_100009 < (IntKind.wrap .i64 ((IntKind.wrap .i64 (Int.tmod p0.Sure 60)) + (IntKind.wrap .i64 (Int.tmod (0 : Int) 13))))))
        (Option.bind (m_hindcastlaw28_at F p0.Theirs j100049_100009) fun v100090 => (Option.bind (m_rollback_Engine_Remote_nil0 F (IntKind.wrap .u64
        j100049_100009) v100090) fun v100091 => m_hindcastlaw28_BackfillFills_L100048_1 F p0 n (IntKind.wrap .i64 (j100049_100009 + (1 : Int)))))
        (some ()))

def m_hindcastlaw28_BackfillFills_L100012_2 (F : Nat) (p0 : T_hindcastlaw28_Setup) : Nat → Int → Int → Int → Int → Int → (T_api_Player × T_api_Player) → (List T_api_Shot) → (Int × Int) → (List Int) → Int → (List Int) → Int → Int → (Arr T_ring_place 14) → Option (Int × Int × Int × Int × (T_api_Player × T_api_Player) × (List T_api_Shot) × (Int × Int) × (List Int) × Int × (List Int) × Int × Int × (Arr T_ring_place 14))
  | 0, _, _, _, _, _, _, _, _, _, _, _, _, _, _ => none
  | n + 1, j100013_100007, j100013_n100021_0_f0, j100013_n100021_0_f1, j100013_n100021_0_f2_0, j100013_n100021_0_f2_1, j100013_n100021_0_f2_2, j100013_n100021_0_f2_3, j100013_n100021_0_f2_4, j100013_n100021_0_f3, j100013_n100021_0_4_f0, j100013_n100021_0_4_f1, j100013_n100021_0_4_f2, j100013_n100021_0_5_f0, j100013_n100021_0_5_f1 =>
      (cond (decide (j100013_100007 < (IntKind.wrap .i64 (Int.tmod p0.Sure 60)))) (Option.bind (m_hindcastlaw28_at F p0.Mine j100013_100007) fun
        v100036 => (Option.bind (m_rollback_Engine_Local F (T_rollback_Engine.mk j100013_n100021_0_f0 j100013_n100021_0_f1 (T_api_State.mk
        j100013_n100021_0_f2_0 j100013_n100021_0_f2_1 j100013_n100021_0_f2_2 j100013_n100021_0_f2_3 j100013_n100021_0_f2_4) j100013_n100021_0_f3)
        (T_queue_Queue.mk j100013_n100021_0_4_f0 j100013_n100021_0_4_f1 j100013_n100021_0_4_f2) (T_ring_Ring.mk j100013_n100021_0_5_f0
        j100013_n100021_0_5_f1) v100036) fun (o100037_0, v100037) => (Option.bind (m_hindcastlaw28_at F p0.Theirs j100013_100007) fun v100044 =>
        (Option.bind (m_rollback_Engine_Remote F o100037_0 (T_queue_Queue.mk j100013_n100021_0_4_f0 j100013_n100021_0_4_f1 j100013_n100021_0_4_f2)
        (T_ring_Ring.mk j100013_n100021_0_5_f0 j100013_n100021_0_5_f1) (IntKind.wrap .u64 j100013_100007) v100044) fun (o100045_1, o100045_2, v100045)
        => (Option.bind (m_rollback_Engine_Confirm F o100037_0 o100045_1 o100045_2 (IntKind.wrap .u64 (IntKind.wrap .i64 (j100013_100007 + (1 :
        Int))))) fun (o100050_0, o100050_1, o100050_2, v100050_0, v100050_1) => (Option.bind (m_hindcastlaw28_Setup_pair F (T_hindcastlaw28_Setup.mk
        p0.Seed p0.Player p0.Window p0.Sure (IntKind.wrap .u8 (IntKind.wrap .i64 ((1 : Int) + (IntKind.wrap .i64 (Int.tmod p0.Window 12))))) (0 : Int)
        (0 : Int) p0.Mine p0.Theirs) j100013_100007) fun v100054 => (Option.bind (m_fold_History_Add_nil0 F v100054) fun v100055 =>
        m_hindcastlaw28_BackfillFills_L100012_2 F p0 n (IntKind.wrap .i64 (j100013_100007 + (1 : Int))) o100050_0.player o100050_0.window
        o100050_0.sure.Frame o100050_0.sure.Seed o100050_0.sure.Players o100050_0.sure.Shots o100050_0.sure.Score o100050_0.own o100050_1.first_
        o100050_1.l o100050_1.last o100050_2.size o100050_2.places))))))) (some (j100013_n100021_0_f0, j100013_n100021_0_f1, j100013_n100021_0_f2_0,
        j100013_n100021_0_f2_1, j100013_n100021_0_f2_2, j100013_n100021_0_f2_3, j100013_n100021_0_f2_4, j100013_n100021_0_f3, j100013_n100021_0_4_f0,
        j100013_n100021_0_4_f1, j100013_n100021_0_4_f2, j100013_n100021_0_5_f0, j100013_n100021_0_5_f1)))

def m_hindcastlaw28_BackfillFills_L100033_2 (F : Nat) (p0 : T_hindcastlaw28_Setup) (l100013_n100021_0_4_f0 : Int) (l100013_n100021_0_4_f1 : (List Int)) (l100013_n100021_0_4_f2 : Int) (l100013_n100021_0_5_f0 : Int) (l100013_n100021_0_5_f1 : (Arr T_ring_place 14)) : Nat → Int → Int → Int → Int → Int → (T_api_Player × T_api_Player) → (List T_api_Shot) → (Int × Int) → (List Int) → Option (Int × Int × Int × Int × (T_api_Player × T_api_Player) × (List T_api_Shot) × (Int × Int) × (List Int))
  | 0, _, _, _, _, _, _, _, _, _ => none
  | n + 1, j100034_100008, j100034_n100021_0_f0, j100034_n100021_0_f1, j100034_n100021_0_f2_0, j100034_n100021_0_f2_1, j100034_n100021_0_f2_2, j100034_n100021_0_f2_3, j100034_n100021_0_f2_4, j100034_n100021_0_f3 =>
      (cond (decide (j100034_100008 < (IntKind.wrap .i64 ((IntKind.wrap .i64 (Int.tmod p0.Sure 60)) + (IntKind.wrap .i64 (Int.tmod (IntKind.wrap .u8
        (IntKind.wrap .i64 ((1 : Int) + (IntKind.wrap .i64 (Int.tmod p0.Window 12))))) 13)))))) (Option.bind (m_hindcastlaw28_at F p0.Mine
        j100034_100008) fun v100071 => (Option.bind (m_rollback_Engine_Local F (T_rollback_Engine.mk j100034_n100021_0_f0 j100034_n100021_0_f1
        (T_api_State.mk j100034_n100021_0_f2_0 j100034_n100021_0_f2_1 j100034_n100021_0_f2_2 j100034_n100021_0_f2_3 j100034_n100021_0_f2_4)
        j100034_n100021_0_f3) (T_queue_Queue.mk l100013_n100021_0_4_f0 l100013_n100021_0_4_f1 l100013_n100021_0_4_f2) (T_ring_Ring.mk
        l100013_n100021_0_5_f0 l100013_n100021_0_5_f1) v100071) fun (o100072_0, v100072) => m_hindcastlaw28_BackfillFills_L100033_2 F p0
        l100013_n100021_0_4_f0 l100013_n100021_0_4_f1 l100013_n100021_0_4_f2 l100013_n100021_0_5_f0 l100013_n100021_0_5_f1 n (IntKind.wrap .i64
        (j100034_100008 + (1 : Int))) o100072_0.player o100072_0.window o100072_0.sure.Frame o100072_0.sure.Seed o100072_0.sure.Players
        o100072_0.sure.Shots o100072_0.sure.Score o100072_0.own)) (some (j100034_n100021_0_f0, j100034_n100021_0_f1, j100034_n100021_0_f2_0,
        j100034_n100021_0_f2_1, j100034_n100021_0_f2_2, j100034_n100021_0_f2_3, j100034_n100021_0_f2_4, j100034_n100021_0_f3)))

def m_hindcastlaw28_BackfillFills_L100048_2 (F : Nat) (p0 : T_hindcastlaw28_Setup) (l100034_n100021_0_f0 : Int) (l100034_n100021_0_f1 : Int) (l100034_n100021_0_f2_0 : Int) (l100034_n100021_0_f2_1 : Int) (l100034_n100021_0_f2_2 : (T_api_Player × T_api_Player)) (l100034_n100021_0_f2_3 : (List T_api_Shot)) (l100034_n100021_0_f2_4 : (Int × Int)) (l100034_n100021_0_f3 : (List Int)) : Nat → Int → Int → (List Int) → Int → Int → (Arr T_ring_place 14) → Option (Int × (List Int) × Int × Int × (Arr T_ring_place 14))
  | 0, _, _, _, _, _, _ => none
  | n + 1, j100049_100009, j100049_n100021_0_4_f0, j100049_n100021_0_4_f1, j100049_n100021_0_4_f2, j100049_n100021_0_5_f0, j100049_n100021_0_5_f1 =>
      (cond (decide (j100049_100009 < (IntKind.wrap .i64 ((IntKind.wrap .i64 (Int.tmod p0.Sure 60)) + (IntKind.wrap .i64 (Int.tmod (0 : Int) 13))))))
        (Option.bind (m_hindcastlaw28_at F p0.Theirs j100049_100009) fun v100090 => (Option.bind (m_rollback_Engine_Remote F (T_rollback_Engine.mk
        l100034_n100021_0_f0 l100034_n100021_0_f1 (T_api_State.mk l100034_n100021_0_f2_0 l100034_n100021_0_f2_1 l100034_n100021_0_f2_2
        l100034_n100021_0_f2_3 l100034_n100021_0_f2_4) l100034_n100021_0_f3) (T_queue_Queue.mk j100049_n100021_0_4_f0 j100049_n100021_0_4_f1
        j100049_n100021_0_4_f2) (T_ring_Ring.mk j100049_n100021_0_5_f0 j100049_n100021_0_5_f1) (IntKind.wrap .u64 j100049_100009) v100090) fun
        (o100091_1, o100091_2, v100091) => m_hindcastlaw28_BackfillFills_L100048_2 F p0 l100034_n100021_0_f0 l100034_n100021_0_f1
        l100034_n100021_0_f2_0 l100034_n100021_0_f2_1 l100034_n100021_0_f2_2 l100034_n100021_0_f2_3 l100034_n100021_0_f2_4 l100034_n100021_0_f3 n
        (IntKind.wrap .i64 (j100049_100009 + (1 : Int))) o100091_1.first_ o100091_1.l o100091_1.last o100091_2.size o100091_2.places)) (some
        (j100049_n100021_0_4_f0, j100049_n100021_0_4_f1, j100049_n100021_0_4_f2, j100049_n100021_0_5_f0, j100049_n100021_0_5_f1)))

def m_hindcastlaw28_BackfillFills_L100012_3 (F : Nat) (p0 : T_hindcastlaw28_Setup) : Nat → Int → Int → Int → Int → Int → (T_api_Player × T_api_Player) → (List T_api_Shot) → (Int × Int) → (List Int) → Int → (List Int) → Int → Int → (Arr T_ring_place 14) → T_fold_History → Option (Int × Int × Int × Int × (T_api_Player × T_api_Player) × (List T_api_Shot) × (Int × Int) × (List Int) × Int × (List Int) × Int × Int × (Arr T_ring_place 14) × T_fold_History)
  | 0, _, _, _, _, _, _, _, _, _, _, _, _, _, _, _ => none
  | n + 1, j100013_100007, j100013_n100021_0_f0, j100013_n100021_0_f1, j100013_n100021_0_f2_0, j100013_n100021_0_f2_1, j100013_n100021_0_f2_2, j100013_n100021_0_f2_3, j100013_n100021_0_f2_4, j100013_n100021_0_f3, j100013_n100021_0_4_f0, j100013_n100021_0_4_f1, j100013_n100021_0_4_f2, j100013_n100021_0_5_f0, j100013_n100021_0_5_f1, j100013_n100022_0 =>
      (cond (decide (j100013_100007 < (IntKind.wrap .i64 (Int.tmod p0.Sure 60)))) (Option.bind (m_hindcastlaw28_at F p0.Mine j100013_100007) fun
        v100036 => (Option.bind (m_rollback_Engine_Local F (T_rollback_Engine.mk j100013_n100021_0_f0 j100013_n100021_0_f1 (T_api_State.mk
        j100013_n100021_0_f2_0 j100013_n100021_0_f2_1 j100013_n100021_0_f2_2 j100013_n100021_0_f2_3 j100013_n100021_0_f2_4) j100013_n100021_0_f3)
        (T_queue_Queue.mk j100013_n100021_0_4_f0 j100013_n100021_0_4_f1 j100013_n100021_0_4_f2) (T_ring_Ring.mk j100013_n100021_0_5_f0
        j100013_n100021_0_5_f1) v100036) fun (o100037_0, v100037) => (Option.bind (m_hindcastlaw28_at F p0.Theirs j100013_100007) fun v100044 =>
        (Option.bind (m_rollback_Engine_Remote F o100037_0 (T_queue_Queue.mk j100013_n100021_0_4_f0 j100013_n100021_0_4_f1 j100013_n100021_0_4_f2)
        (T_ring_Ring.mk j100013_n100021_0_5_f0 j100013_n100021_0_5_f1) (IntKind.wrap .u64 j100013_100007) v100044) fun (o100045_1, o100045_2, v100045)
        => (Option.bind (m_rollback_Engine_Confirm F o100037_0 o100045_1 o100045_2 (IntKind.wrap .u64 (IntKind.wrap .i64 (j100013_100007 + (1 :
        Int))))) fun (o100050_0, o100050_1, o100050_2, v100050_0, v100050_1) => (Option.bind (m_hindcastlaw28_Setup_pair F (T_hindcastlaw28_Setup.mk
        p0.Seed p0.Player p0.Window p0.Sure (IntKind.wrap .u8 (IntKind.wrap .i64 ((1 : Int) + (IntKind.wrap .i64 (Int.tmod p0.Window 12))))) (0 : Int)
        (0 : Int) p0.Mine p0.Theirs) j100013_100007) fun v100054 => (Option.bind (m_fold_History_Add F j100013_n100022_0 v100054) fun (o100055_0,
        v100055) => m_hindcastlaw28_BackfillFills_L100012_3 F p0 n (IntKind.wrap .i64 (j100013_100007 + (1 : Int))) o100050_0.player o100050_0.window
        o100050_0.sure.Frame o100050_0.sure.Seed o100050_0.sure.Players o100050_0.sure.Shots o100050_0.sure.Score o100050_0.own o100050_1.first_
        o100050_1.l o100050_1.last o100050_2.size o100050_2.places o100055_0))))))) (some (j100013_n100021_0_f0, j100013_n100021_0_f1,
        j100013_n100021_0_f2_0, j100013_n100021_0_f2_1, j100013_n100021_0_f2_2, j100013_n100021_0_f2_3, j100013_n100021_0_f2_4, j100013_n100021_0_f3,
        j100013_n100021_0_4_f0, j100013_n100021_0_4_f1, j100013_n100021_0_4_f2, j100013_n100021_0_5_f0, j100013_n100021_0_5_f1, j100013_n100022_0)))

def m_hindcastlaw28_BackfillFills_L100033_3 (F : Nat) (p0 : T_hindcastlaw28_Setup) (l100013_n100021_0_4_f0 : Int) (l100013_n100021_0_4_f1 : (List Int)) (l100013_n100021_0_4_f2 : Int) (l100013_n100021_0_5_f0 : Int) (l100013_n100021_0_5_f1 : (Arr T_ring_place 14)) : Nat → Int → Int → Int → Int → Int → (T_api_Player × T_api_Player) → (List T_api_Shot) → (Int × Int) → (List Int) → Option (Int × Int × Int × Int × (T_api_Player × T_api_Player) × (List T_api_Shot) × (Int × Int) × (List Int))
  | 0, _, _, _, _, _, _, _, _, _ => none
  | n + 1, j100034_100008, j100034_n100021_0_f0, j100034_n100021_0_f1, j100034_n100021_0_f2_0, j100034_n100021_0_f2_1, j100034_n100021_0_f2_2, j100034_n100021_0_f2_3, j100034_n100021_0_f2_4, j100034_n100021_0_f3 =>
      (cond (decide (j100034_100008 < (IntKind.wrap .i64 ((IntKind.wrap .i64 (Int.tmod p0.Sure 60)) + (IntKind.wrap .i64 (Int.tmod (IntKind.wrap .u8
        (IntKind.wrap .i64 ((1 : Int) + (IntKind.wrap .i64 (Int.tmod p0.Window 12))))) 13)))))) (Option.bind (m_hindcastlaw28_at F p0.Mine
        j100034_100008) fun v100071 => (Option.bind (m_rollback_Engine_Local F (T_rollback_Engine.mk j100034_n100021_0_f0 j100034_n100021_0_f1
        (T_api_State.mk j100034_n100021_0_f2_0 j100034_n100021_0_f2_1 j100034_n100021_0_f2_2 j100034_n100021_0_f2_3 j100034_n100021_0_f2_4)
        j100034_n100021_0_f3) (T_queue_Queue.mk l100013_n100021_0_4_f0 l100013_n100021_0_4_f1 l100013_n100021_0_4_f2) (T_ring_Ring.mk
        l100013_n100021_0_5_f0 l100013_n100021_0_5_f1) v100071) fun (o100072_0, v100072) => m_hindcastlaw28_BackfillFills_L100033_3 F p0
        l100013_n100021_0_4_f0 l100013_n100021_0_4_f1 l100013_n100021_0_4_f2 l100013_n100021_0_5_f0 l100013_n100021_0_5_f1 n (IntKind.wrap .i64
        (j100034_100008 + (1 : Int))) o100072_0.player o100072_0.window o100072_0.sure.Frame o100072_0.sure.Seed o100072_0.sure.Players
        o100072_0.sure.Shots o100072_0.sure.Score o100072_0.own)) (some (j100034_n100021_0_f0, j100034_n100021_0_f1, j100034_n100021_0_f2_0,
        j100034_n100021_0_f2_1, j100034_n100021_0_f2_2, j100034_n100021_0_f2_3, j100034_n100021_0_f2_4, j100034_n100021_0_f3)))

def m_hindcastlaw28_BackfillFills_L100048_3 (F : Nat) (p0 : T_hindcastlaw28_Setup) (l100034_n100021_0_f0 : Int) (l100034_n100021_0_f1 : Int) (l100034_n100021_0_f2_0 : Int) (l100034_n100021_0_f2_1 : Int) (l100034_n100021_0_f2_2 : (T_api_Player × T_api_Player)) (l100034_n100021_0_f2_3 : (List T_api_Shot)) (l100034_n100021_0_f2_4 : (Int × Int)) (l100034_n100021_0_f3 : (List Int)) : Nat → Int → Int → (List Int) → Int → Int → (Arr T_ring_place 14) → Option (Int × (List Int) × Int × Int × (Arr T_ring_place 14))
  | 0, _, _, _, _, _, _ => none
  | n + 1, j100049_100009, j100049_n100021_0_4_f0, j100049_n100021_0_4_f1, j100049_n100021_0_4_f2, j100049_n100021_0_5_f0, j100049_n100021_0_5_f1 =>
      (cond (decide (j100049_100009 < (IntKind.wrap .i64 ((IntKind.wrap .i64 (Int.tmod p0.Sure 60)) + (IntKind.wrap .i64 (Int.tmod (0 : Int) 13))))))
        (Option.bind (m_hindcastlaw28_at F p0.Theirs j100049_100009) fun v100090 => (Option.bind (m_rollback_Engine_Remote F (T_rollback_Engine.mk
        l100034_n100021_0_f0 l100034_n100021_0_f1 (T_api_State.mk l100034_n100021_0_f2_0 l100034_n100021_0_f2_1 l100034_n100021_0_f2_2
        l100034_n100021_0_f2_3 l100034_n100021_0_f2_4) l100034_n100021_0_f3) (T_queue_Queue.mk j100049_n100021_0_4_f0 j100049_n100021_0_4_f1
        j100049_n100021_0_4_f2) (T_ring_Ring.mk j100049_n100021_0_5_f0 j100049_n100021_0_5_f1) (IntKind.wrap .u64 j100049_100009) v100090) fun
        (o100091_1, o100091_2, v100091) => m_hindcastlaw28_BackfillFills_L100048_3 F p0 l100034_n100021_0_f0 l100034_n100021_0_f1
        l100034_n100021_0_f2_0 l100034_n100021_0_f2_1 l100034_n100021_0_f2_2 l100034_n100021_0_f2_3 l100034_n100021_0_f2_4 l100034_n100021_0_f3 n
        (IntKind.wrap .i64 (j100049_100009 + (1 : Int))) o100091_1.first_ o100091_1.l o100091_1.last o100091_2.size o100091_2.places)) (some
        (j100049_n100021_0_4_f0, j100049_n100021_0_4_f1, j100049_n100021_0_4_f2, j100049_n100021_0_5_f0, j100049_n100021_0_5_f1)))

def m_hindcastlaw28_BackfillFills_L34 (F : Nat) (p0 : T_hindcastlaw28_Setup) (v64 : Int) : Nat → Int → Option Unit
  | 0, _ => none
  | n + 1, j35_13 =>
      (cond (decide (j35_13 < (IntKind.wrap .i64 ((IntKind.wrap .i64 (Int.tmod p0.Sure 60)) + v64)))) (Option.bind (m_hindcastlaw28_Setup_pair F p0
        j35_13) fun v75 => (Option.bind (m_fold_History_Add_nil0 F v75) fun v76 => m_hindcastlaw28_BackfillFills_L34 F p0 v64 n (IntKind.wrap .i64
        (j35_13 + (1 : Int))))) (some ()))

def m_hindcastlaw28_BackfillFills_L74 (F : Nat) (p0 : T_hindcastlaw28_Setup) (j50_14 : Int) (j50_n100021_0_f0 : Int) (j50_n100021_0_f1 : Int) (j50_n100021_0_f2_0 : Int) (j50_n100021_0_f2_1 : Int) (j50_n100021_0_f2_2 : (T_api_Player × T_api_Player)) (j50_n100021_0_f2_3 : (List T_api_Shot)) (j50_n100021_0_f2_4 : (Int × Int)) (j50_n100021_0_f3 : (List Int)) (j50_n100022_0 : T_fold_History) (v85_0 : Int) (v85_1 : Int) (v114 : (List (Int × Int))) : Nat → Int → Int → (List Int) → Int → Int → (Arr T_ring_place 14) → Option ((Bool × Int × (List Int) × Int × Int × (Arr T_ring_place 14)) ⊕ (Bool))
  | 0, _, _, _, _, _, _ => none
  | n + 1, j75_18, j75_n100021_0_4_f0, j75_n100021_0_4_f1, j75_n100021_0_4_f2, j75_n100021_0_5_f0, j75_n100021_0_5_f1 =>
      (cond (decide (j75_18 < (IntKind.wrap .i64 ((1 : Int) + j50_14)))) (Option.bind (m_backfill_Pairs F (T_rollback_Engine.mk j50_n100021_0_f0
        j50_n100021_0_f1 (T_api_State.mk j50_n100021_0_f2_0 j50_n100021_0_f2_1 j50_n100021_0_f2_2 j50_n100021_0_f2_3 j50_n100021_0_f2_4)
        j50_n100021_0_f3) (T_queue_Queue.mk j75_n100021_0_4_f0 j75_n100021_0_4_f1 j75_n100021_0_4_f2) (T_ring_Ring.mk j75_n100021_0_5_f0
        j75_n100021_0_5_f1) j50_n100022_0 (Int.tmod p0.Player 2) v85_0 v114) fun (o129_1, o129_2, v129_0, v129_1) => (Option.bind (cond (v129_0 !=
        v85_1) (some (true)) (some ((v129_1 != (0 : Int))))) fun v138 => (cond v138 (some (.inr false)) (m_hindcastlaw28_BackfillFills_L74 F p0 j50_14
        j50_n100021_0_f0 j50_n100021_0_f1 j50_n100021_0_f2_0 j50_n100021_0_f2_1 j50_n100021_0_f2_2 j50_n100021_0_f2_3 j50_n100021_0_f2_4
        j50_n100021_0_f3 j50_n100022_0 v85_0 v85_1 v114 n (IntKind.wrap .i64 (j75_18 + (1 : Int))) o129_1.first_ o129_1.l o129_1.last o129_2.size
        o129_2.places)))) (some (.inl (false, j75_n100021_0_4_f0, j75_n100021_0_4_f1, j75_n100021_0_4_f2, j75_n100021_0_5_f0, j75_n100021_0_5_f1))))

def m_hindcastlaw28_BackfillFills_L97 (F : Nat) (p0 : T_hindcastlaw28_Setup) (p2 : Bool) (v64 : Int) (l75_6 : Bool) : Nat → Int → Int → Int → Int → Int → (T_api_Player × T_api_Player) → (List T_api_Shot) → (Int × Int) → (List Int) → Int → (List Int) → Int → Int → (Arr T_ring_place 14) → T_fold_History → Option ((Bool × Int × Int × Int × Int × (T_api_Player × T_api_Player) × (List T_api_Shot) × (Int × Int) × (List Int) × Int × (List Int) × Int × Int × (Arr T_ring_place 14) × T_fold_History) ⊕ (Bool))
  | 0, _, _, _, _, _, _, _, _, _, _, _, _, _, _, _ => none
  | n + 1, j98_21, j98_n100021_0_f0, j98_n100021_0_f1, j98_n100021_0_f2_0, j98_n100021_0_f2_1, j98_n100021_0_f2_2, j98_n100021_0_f2_3, j98_n100021_0_f2_4, j98_n100021_0_f3, j98_n100021_0_4_f0, j98_n100021_0_4_f1, j98_n100021_0_4_f2, j98_n100021_0_5_f0, j98_n100021_0_5_f1, j98_n100022_0 =>
      (Option.bind (cond (decide (j98_21 < (20 : Int))) ((Option.bind (m_rollback_Engine_C F (T_rollback_Engine.mk j98_n100021_0_f0 j98_n100021_0_f1
        (T_api_State.mk j98_n100021_0_f2_0 j98_n100021_0_f2_1 j98_n100021_0_f2_2 j98_n100021_0_f2_3 j98_n100021_0_f2_4) j98_n100021_0_f3)
        (T_queue_Queue.mk j98_n100021_0_4_f0 j98_n100021_0_4_f1 j98_n100021_0_4_f2) (T_ring_Ring.mk j98_n100021_0_5_f0 j98_n100021_0_5_f1)) fun v143
        => some ((decide (v143 < (IntKind.wrap .u64 (IntKind.wrap .i64 ((IntKind.wrap .i64 (Int.tmod p0.Sure 60)) + v64)))))))) (some (false))) fun
        v147 => (Option.bind (cond v147 (some (p2)) (some (false))) fun v150 => (cond v150 (Option.bind (m_rollback_Engine_Confirm F
        (T_rollback_Engine.mk j98_n100021_0_f0 j98_n100021_0_f1 (T_api_State.mk j98_n100021_0_f2_0 j98_n100021_0_f2_1 j98_n100021_0_f2_2
        j98_n100021_0_f2_3 j98_n100021_0_f2_4) j98_n100021_0_f3) (T_queue_Queue.mk j98_n100021_0_4_f0 j98_n100021_0_4_f1 j98_n100021_0_4_f2)
        (T_ring_Ring.mk j98_n100021_0_5_f0 j98_n100021_0_5_f1) (IntKind.wrap .u64 (IntKind.wrap .i64 ((IntKind.wrap .i64 (Int.tmod p0.Sure 60)) +
        v64)))) fun (o157_0, o157_1, o157_2, v157_0, v157_1) => (Option.bind (cond (!v157_1) (some (true)) ((Option.bind (m_fold_History_Count F
        j98_n100022_0) fun v166 => (Option.bind (m_hindcastlaw28_Setup_pair F p0 (IntKind.wrap .i64 v166)) fun v168 => some ((!((v157_0.1 == v168.1)
        && (v157_0.2 == v168.2)))))))) fun v170 => (Option.bind (cond v170 (some (true, j98_n100022_0)) ((Option.bind (m_fold_History_Add F
        j98_n100022_0 v157_0) fun (o174_0, v174) => some ((v174 != (0 : Int)), o174_0)))) fun (v176, g176_n100022_0) => (cond v176 (some (.inr false))
        (m_hindcastlaw28_BackfillFills_L97 F p0 p2 v64 l75_6 n (IntKind.wrap .i64 (j98_21 + (1 : Int))) o157_0.player o157_0.window o157_0.sure.Frame
        o157_0.sure.Seed o157_0.sure.Players o157_0.sure.Shots o157_0.sure.Score o157_0.own o157_1.first_ o157_1.l o157_1.last o157_2.size
        o157_2.places g176_n100022_0))))) (some (.inl (l75_6, j98_n100021_0_f0, j98_n100021_0_f1, j98_n100021_0_f2_0, j98_n100021_0_f2_1,
        j98_n100021_0_f2_2, j98_n100021_0_f2_3, j98_n100021_0_f2_4, j98_n100021_0_f3, j98_n100021_0_4_f0, j98_n100021_0_4_f1, j98_n100021_0_4_f2,
        j98_n100021_0_5_f0, j98_n100021_0_5_f1, j98_n100022_0))))))

def m_hindcastlaw28_BackfillFills_L49 (F : Nat) (p0 : T_hindcastlaw28_Setup) (p2 : Bool) (v64 : Int) : Nat → Int → Int → Int → Int → Int → (T_api_Player × T_api_Player) → (List T_api_Shot) → (Int × Int) → (List Int) → Int → (List Int) → Int → Int → (Arr T_ring_place 14) → T_fold_History → Option ((Bool × Int × Int × Int × Int × (T_api_Player × T_api_Player) × (List T_api_Shot) × (Int × Int) × (List Int) × Int × (List Int) × Int × Int × (Arr T_ring_place 14) × T_fold_History) ⊕ (Bool))
  | 0, _, _, _, _, _, _, _, _, _, _, _, _, _, _, _ => none
  | n + 1, j50_14, j50_n100021_0_f0, j50_n100021_0_f1, j50_n100021_0_f2_0, j50_n100021_0_f2_1, j50_n100021_0_f2_2, j50_n100021_0_f2_3, j50_n100021_0_f2_4, j50_n100021_0_f3, j50_n100021_0_4_f0, j50_n100021_0_4_f1, j50_n100021_0_4_f2, j50_n100021_0_5_f0, j50_n100021_0_5_f1, j50_n100022_0 =>
      (cond (decide (j50_14 < (3 : Int))) (Option.bind (m_rollback_Engine_C F (T_rollback_Engine.mk j50_n100021_0_f0 j50_n100021_0_f1 (T_api_State.mk
        j50_n100021_0_f2_0 j50_n100021_0_f2_1 j50_n100021_0_f2_2 j50_n100021_0_f2_3 j50_n100021_0_f2_4) j50_n100021_0_f3) (T_queue_Queue.mk
        j50_n100021_0_4_f0 j50_n100021_0_4_f1 j50_n100021_0_4_f2) (T_ring_Ring.mk j50_n100021_0_5_f0 j50_n100021_0_5_f1)) fun v84 => (Option.bind
        (m_backfill_Plan_nil0 F v84) fun (v85_0, v85_1) => (Option.bind (m_rollback_Engine_C F (T_rollback_Engine.mk j50_n100021_0_f0 j50_n100021_0_f1
        (T_api_State.mk j50_n100021_0_f2_0 j50_n100021_0_f2_1 j50_n100021_0_f2_2 j50_n100021_0_f2_3 j50_n100021_0_f2_4) j50_n100021_0_f3)
        (T_queue_Queue.mk j50_n100021_0_4_f0 j50_n100021_0_4_f1 j50_n100021_0_4_f2) (T_ring_Ring.mk j50_n100021_0_5_f0 j50_n100021_0_5_f1)) fun v90 =>
        (Option.bind (cond (v85_0 != v90) (some ((decide ((0 : Int) < v85_1)))) (some (false))) fun v95 => (Option.bind (cond v95 (some (true)) (some
        ((decide ((32 : Int) < v85_1))))) fun v99 => (Option.bind (cond v99 (some (true)) ((Option.bind (m_rollback_Engine_C F (T_rollback_Engine.mk
        j50_n100021_0_f0 j50_n100021_0_f1 (T_api_State.mk j50_n100021_0_f2_0 j50_n100021_0_f2_1 j50_n100021_0_f2_2 j50_n100021_0_f2_3
        j50_n100021_0_f2_4) j50_n100021_0_f3) (T_queue_Queue.mk j50_n100021_0_4_f0 j50_n100021_0_4_f1 j50_n100021_0_4_f2) (T_ring_Ring.mk
        j50_n100021_0_5_f0 j50_n100021_0_5_f1)) fun v106 => some (((IntKind.wrap .u64 v85_1) != (min (32 : Int) (IntKind.wrap .u64 ((IntKind.wrap .u64
        (IntKind.wrap .i64 ((IntKind.wrap .i64 (Int.tmod p0.Sure 60)) + v64))) - v106)))))))) fun v110 => (cond v110 (some (.inr false)) (Option.bind
        (m_fold_History_Slice_nil0 F v85_0 v85_1) fun v114 => (Option.bind (m_hindcastlaw28_BackfillFills_L74 F p0 j50_14 j50_n100021_0_f0
        j50_n100021_0_f1 j50_n100021_0_f2_0 j50_n100021_0_f2_1 j50_n100021_0_f2_2 j50_n100021_0_f2_3 j50_n100021_0_f2_4 j50_n100021_0_f3 j50_n100022_0
        v85_0 v85_1 v114 F (0 : Int) j50_n100021_0_4_f0 j50_n100021_0_4_f1 j50_n100021_0_4_f2 j50_n100021_0_5_f0 j50_n100021_0_5_f1) (orE (fun (l75_6,
        l75_n100021_0_4_f0, l75_n100021_0_4_f1, l75_n100021_0_4_f2, l75_n100021_0_5_f0, l75_n100021_0_5_f1) => (Option.bind
        (m_hindcastlaw28_BackfillFills_L97 F p0 p2 v64 l75_6 F (0 : Int) j50_n100021_0_f0 j50_n100021_0_f1 j50_n100021_0_f2_0 j50_n100021_0_f2_1
        j50_n100021_0_f2_2 j50_n100021_0_f2_3 j50_n100021_0_f2_4 j50_n100021_0_f3 l75_n100021_0_4_f0 l75_n100021_0_4_f1 l75_n100021_0_4_f2
        l75_n100021_0_5_f0 l75_n100021_0_5_f1 j50_n100022_0) (orE (fun (l98_6, l98_n100021_0_f0, l98_n100021_0_f1, l98_n100021_0_f2_0,
        l98_n100021_0_f2_1, l98_n100021_0_f2_2, l98_n100021_0_f2_3, l98_n100021_0_f2_4, l98_n100021_0_f3, l98_n100021_0_4_f0, l98_n100021_0_4_f1,
        l98_n100021_0_4_f2, l98_n100021_0_5_f0, l98_n100021_0_5_f1, l98_n100022_0) => (Option.bind (m_rollback_Engine_Known F (T_rollback_Engine.mk
        l98_n100021_0_f0 l98_n100021_0_f1 (T_api_State.mk l98_n100021_0_f2_0 l98_n100021_0_f2_1 l98_n100021_0_f2_2 l98_n100021_0_f2_3
        l98_n100021_0_f2_4) l98_n100021_0_f3) (T_queue_Queue.mk l98_n100021_0_4_f0 l98_n100021_0_4_f1 l98_n100021_0_4_f2) (T_ring_Ring.mk
        l98_n100021_0_5_f0 l98_n100021_0_5_f1)) fun v178 => (cond (v178 != (IntKind.wrap .u64 (IntKind.wrap .i64 ((IntKind.wrap .i64 (Int.tmod p0.Sure
        60)) + v64)))) (some (.inr false)) (m_hindcastlaw28_BackfillFills_L49 F p0 p2 v64 n (IntKind.wrap .i64 (j50_14 + (1 : Int))) l98_n100021_0_f0
        l98_n100021_0_f1 l98_n100021_0_f2_0 l98_n100021_0_f2_1 l98_n100021_0_f2_2 l98_n100021_0_f2_3 l98_n100021_0_f2_4 l98_n100021_0_f3
        l98_n100021_0_4_f0 l98_n100021_0_4_f1 l98_n100021_0_4_f2 l98_n100021_0_5_f0 l98_n100021_0_5_f1 l98_n100022_0)))) (fun r98 => some (.inr
        r98))))) (fun r75 => some (.inr r75)))))))))))) (some (.inl (false, j50_n100021_0_f0, j50_n100021_0_f1, j50_n100021_0_f2_0,
        j50_n100021_0_f2_1, j50_n100021_0_f2_2, j50_n100021_0_f2_3, j50_n100021_0_f2_4, j50_n100021_0_f3, j50_n100021_0_4_f0, j50_n100021_0_4_f1,
        j50_n100021_0_4_f2, j50_n100021_0_5_f0, j50_n100021_0_5_f1, j50_n100022_0))))

def m_hindcastlaw28_BackfillFills_L34_1 (F : Nat) (p0 : T_hindcastlaw28_Setup) (v64 : Int) : Nat → Int → T_fold_History → Option (T_fold_History)
  | 0, _, _ => none
  | n + 1, j35_13, j35_n66_0 =>
      (cond (decide (j35_13 < (IntKind.wrap .i64 ((IntKind.wrap .i64 (Int.tmod p0.Sure 60)) + v64)))) (Option.bind (m_hindcastlaw28_Setup_pair F p0
        j35_13) fun v75 => (Option.bind (m_fold_History_Add F j35_n66_0 v75) fun (o76_0, v76) => m_hindcastlaw28_BackfillFills_L34_1 F p0 v64 n
        (IntKind.wrap .i64 (j35_13 + (1 : Int))) o76_0)) (some j35_n66_0))

def m_hindcastlaw28_BackfillFills_L74_1 (F : Nat) (p0 : T_hindcastlaw28_Setup) (j50_14 : Int) (j50_n100021_0_f0 : Int) (j50_n100021_0_f1 : Int) (j50_n100021_0_f2_0 : Int) (j50_n100021_0_f2_1 : Int) (j50_n100021_0_f2_2 : (T_api_Player × T_api_Player)) (j50_n100021_0_f2_3 : (List T_api_Shot)) (j50_n100021_0_f2_4 : (Int × Int)) (j50_n100021_0_f3 : (List Int)) (j50_n100022_0 : T_fold_History) (v85_0 : Int) (v85_1 : Int) (v114 : (List (Int × Int))) : Nat → Int → Int → (List Int) → Int → Int → (Arr T_ring_place 14) → Option ((Bool × Int × (List Int) × Int × Int × (Arr T_ring_place 14)) ⊕ (Bool))
  | 0, _, _, _, _, _, _ => none
  | n + 1, j75_18, j75_n100021_0_4_f0, j75_n100021_0_4_f1, j75_n100021_0_4_f2, j75_n100021_0_5_f0, j75_n100021_0_5_f1 =>
      (cond (decide (j75_18 < (IntKind.wrap .i64 ((1 : Int) + j50_14)))) (Option.bind (m_backfill_Pairs F (T_rollback_Engine.mk j50_n100021_0_f0
        j50_n100021_0_f1 (T_api_State.mk j50_n100021_0_f2_0 j50_n100021_0_f2_1 j50_n100021_0_f2_2 j50_n100021_0_f2_3 j50_n100021_0_f2_4)
        j50_n100021_0_f3) (T_queue_Queue.mk j75_n100021_0_4_f0 j75_n100021_0_4_f1 j75_n100021_0_4_f2) (T_ring_Ring.mk j75_n100021_0_5_f0
        j75_n100021_0_5_f1) j50_n100022_0 (Int.tmod p0.Player 2) v85_0 v114) fun (o129_1, o129_2, v129_0, v129_1) => (Option.bind (cond (v129_0 !=
        v85_1) (some (true)) (some ((v129_1 != (0 : Int))))) fun v138 => (cond v138 (some (.inr false)) (m_hindcastlaw28_BackfillFills_L74_1 F p0
        j50_14 j50_n100021_0_f0 j50_n100021_0_f1 j50_n100021_0_f2_0 j50_n100021_0_f2_1 j50_n100021_0_f2_2 j50_n100021_0_f2_3 j50_n100021_0_f2_4
        j50_n100021_0_f3 j50_n100022_0 v85_0 v85_1 v114 n (IntKind.wrap .i64 (j75_18 + (1 : Int))) o129_1.first_ o129_1.l o129_1.last o129_2.size
        o129_2.places)))) (some (.inl (false, j75_n100021_0_4_f0, j75_n100021_0_4_f1, j75_n100021_0_4_f2, j75_n100021_0_5_f0, j75_n100021_0_5_f1))))

def m_hindcastlaw28_BackfillFills_L97_1 (F : Nat) (p0 : T_hindcastlaw28_Setup) (p2 : Bool) (v64 : Int) (l75_6 : Bool) : Nat → Int → Int → Int → Int → Int → (T_api_Player × T_api_Player) → (List T_api_Shot) → (Int × Int) → (List Int) → Int → (List Int) → Int → Int → (Arr T_ring_place 14) → T_fold_History → Option ((Bool × Int × Int × Int × Int × (T_api_Player × T_api_Player) × (List T_api_Shot) × (Int × Int) × (List Int) × Int × (List Int) × Int × Int × (Arr T_ring_place 14) × T_fold_History) ⊕ (Bool))
  | 0, _, _, _, _, _, _, _, _, _, _, _, _, _, _, _ => none
  | n + 1, j98_21, j98_n100021_0_f0, j98_n100021_0_f1, j98_n100021_0_f2_0, j98_n100021_0_f2_1, j98_n100021_0_f2_2, j98_n100021_0_f2_3, j98_n100021_0_f2_4, j98_n100021_0_f3, j98_n100021_0_4_f0, j98_n100021_0_4_f1, j98_n100021_0_4_f2, j98_n100021_0_5_f0, j98_n100021_0_5_f1, j98_n100022_0 =>
      (Option.bind (cond (decide (j98_21 < (20 : Int))) ((Option.bind (m_rollback_Engine_C F (T_rollback_Engine.mk j98_n100021_0_f0 j98_n100021_0_f1
        (T_api_State.mk j98_n100021_0_f2_0 j98_n100021_0_f2_1 j98_n100021_0_f2_2 j98_n100021_0_f2_3 j98_n100021_0_f2_4) j98_n100021_0_f3)
        (T_queue_Queue.mk j98_n100021_0_4_f0 j98_n100021_0_4_f1 j98_n100021_0_4_f2) (T_ring_Ring.mk j98_n100021_0_5_f0 j98_n100021_0_5_f1)) fun v143
        => some ((decide (v143 < (IntKind.wrap .u64 (IntKind.wrap .i64 ((IntKind.wrap .i64 (Int.tmod p0.Sure 60)) + v64)))))))) (some (false))) fun
        v147 => (Option.bind (cond v147 (some (p2)) (some (false))) fun v150 => (cond v150 (Option.bind (m_rollback_Engine_Confirm F
        (T_rollback_Engine.mk j98_n100021_0_f0 j98_n100021_0_f1 (T_api_State.mk j98_n100021_0_f2_0 j98_n100021_0_f2_1 j98_n100021_0_f2_2
        j98_n100021_0_f2_3 j98_n100021_0_f2_4) j98_n100021_0_f3) (T_queue_Queue.mk j98_n100021_0_4_f0 j98_n100021_0_4_f1 j98_n100021_0_4_f2)
        (T_ring_Ring.mk j98_n100021_0_5_f0 j98_n100021_0_5_f1) (IntKind.wrap .u64 (IntKind.wrap .i64 ((IntKind.wrap .i64 (Int.tmod p0.Sure 60)) +
        v64)))) fun (o157_0, o157_1, o157_2, v157_0, v157_1) => (Option.bind (cond (!v157_1) (some (true)) ((Option.bind (m_fold_History_Count F
        j98_n100022_0) fun v166 => (Option.bind (m_hindcastlaw28_Setup_pair F p0 (IntKind.wrap .i64 v166)) fun v168 => some ((!((v157_0.1 == v168.1)
        && (v157_0.2 == v168.2)))))))) fun v170 => (Option.bind (cond v170 (some (true, j98_n100022_0)) ((Option.bind (m_fold_History_Add F
        j98_n100022_0 v157_0) fun (o174_0, v174) => some ((v174 != (0 : Int)), o174_0)))) fun (v176, g176_n100022_0) => (cond v176 (some (.inr false))
        (m_hindcastlaw28_BackfillFills_L97_1 F p0 p2 v64 l75_6 n (IntKind.wrap .i64 (j98_21 + (1 : Int))) o157_0.player o157_0.window
        o157_0.sure.Frame o157_0.sure.Seed o157_0.sure.Players o157_0.sure.Shots o157_0.sure.Score o157_0.own o157_1.first_ o157_1.l o157_1.last
        o157_2.size o157_2.places g176_n100022_0))))) (some (.inl (l75_6, j98_n100021_0_f0, j98_n100021_0_f1, j98_n100021_0_f2_0, j98_n100021_0_f2_1,
        j98_n100021_0_f2_2, j98_n100021_0_f2_3, j98_n100021_0_f2_4, j98_n100021_0_f3, j98_n100021_0_4_f0, j98_n100021_0_4_f1, j98_n100021_0_4_f2,
        j98_n100021_0_5_f0, j98_n100021_0_5_f1, j98_n100022_0))))))

def m_hindcastlaw28_BackfillFills_L49_1 (F : Nat) (p0 : T_hindcastlaw28_Setup) (p2 : Bool) (v64 : Int) (l35_n66_0 : T_fold_History) : Nat → Int → Int → Int → Int → Int → (T_api_Player × T_api_Player) → (List T_api_Shot) → (Int × Int) → (List Int) → Int → (List Int) → Int → Int → (Arr T_ring_place 14) → T_fold_History → Option ((Bool × Int × Int × Int × Int × (T_api_Player × T_api_Player) × (List T_api_Shot) × (Int × Int) × (List Int) × Int × (List Int) × Int × Int × (Arr T_ring_place 14) × T_fold_History) ⊕ (Bool))
  | 0, _, _, _, _, _, _, _, _, _, _, _, _, _, _, _ => none
  | n + 1, j50_14, j50_n100021_0_f0, j50_n100021_0_f1, j50_n100021_0_f2_0, j50_n100021_0_f2_1, j50_n100021_0_f2_2, j50_n100021_0_f2_3, j50_n100021_0_f2_4, j50_n100021_0_f3, j50_n100021_0_4_f0, j50_n100021_0_4_f1, j50_n100021_0_4_f2, j50_n100021_0_5_f0, j50_n100021_0_5_f1, j50_n100022_0 =>
      (cond (decide (j50_14 < (3 : Int))) (Option.bind (m_rollback_Engine_C F (T_rollback_Engine.mk j50_n100021_0_f0 j50_n100021_0_f1 (T_api_State.mk
        j50_n100021_0_f2_0 j50_n100021_0_f2_1 j50_n100021_0_f2_2 j50_n100021_0_f2_3 j50_n100021_0_f2_4) j50_n100021_0_f3) (T_queue_Queue.mk
        j50_n100021_0_4_f0 j50_n100021_0_4_f1 j50_n100021_0_4_f2) (T_ring_Ring.mk j50_n100021_0_5_f0 j50_n100021_0_5_f1)) fun v84 => (Option.bind
        (m_backfill_Plan F l35_n66_0 v84) fun (v85_0, v85_1) => (Option.bind (m_rollback_Engine_C F (T_rollback_Engine.mk j50_n100021_0_f0
        j50_n100021_0_f1 (T_api_State.mk j50_n100021_0_f2_0 j50_n100021_0_f2_1 j50_n100021_0_f2_2 j50_n100021_0_f2_3 j50_n100021_0_f2_4)
        j50_n100021_0_f3) (T_queue_Queue.mk j50_n100021_0_4_f0 j50_n100021_0_4_f1 j50_n100021_0_4_f2) (T_ring_Ring.mk j50_n100021_0_5_f0
        j50_n100021_0_5_f1)) fun v90 => (Option.bind (cond (v85_0 != v90) (some ((decide ((0 : Int) < v85_1)))) (some (false))) fun v95 =>
        (Option.bind (cond v95 (some (true)) (some ((decide ((32 : Int) < v85_1))))) fun v99 => (Option.bind (cond v99 (some (true)) ((Option.bind
        (m_rollback_Engine_C F (T_rollback_Engine.mk j50_n100021_0_f0 j50_n100021_0_f1 (T_api_State.mk j50_n100021_0_f2_0 j50_n100021_0_f2_1
        j50_n100021_0_f2_2 j50_n100021_0_f2_3 j50_n100021_0_f2_4) j50_n100021_0_f3) (T_queue_Queue.mk j50_n100021_0_4_f0 j50_n100021_0_4_f1
        j50_n100021_0_4_f2) (T_ring_Ring.mk j50_n100021_0_5_f0 j50_n100021_0_5_f1)) fun v106 => some (((IntKind.wrap .u64 v85_1) != (min (32 : Int)
        (IntKind.wrap .u64 ((IntKind.wrap .u64 (IntKind.wrap .i64 ((IntKind.wrap .i64 (Int.tmod p0.Sure 60)) + v64))) - v106)))))))) fun v110 => (cond
        v110 (some (.inr false)) (Option.bind (m_fold_History_Slice F l35_n66_0 v85_0 v85_1) fun v114 => (Option.bind
        (m_hindcastlaw28_BackfillFills_L74_1 F p0 j50_14 j50_n100021_0_f0 j50_n100021_0_f1 j50_n100021_0_f2_0 j50_n100021_0_f2_1 j50_n100021_0_f2_2
        j50_n100021_0_f2_3 j50_n100021_0_f2_4 j50_n100021_0_f3 j50_n100022_0 v85_0 v85_1 v114 F (0 : Int) j50_n100021_0_4_f0 j50_n100021_0_4_f1
        j50_n100021_0_4_f2 j50_n100021_0_5_f0 j50_n100021_0_5_f1) (orE (fun (l75_6, l75_n100021_0_4_f0, l75_n100021_0_4_f1, l75_n100021_0_4_f2,
        l75_n100021_0_5_f0, l75_n100021_0_5_f1) => (Option.bind (m_hindcastlaw28_BackfillFills_L97_1 F p0 p2 v64 l75_6 F (0 : Int) j50_n100021_0_f0
        j50_n100021_0_f1 j50_n100021_0_f2_0 j50_n100021_0_f2_1 j50_n100021_0_f2_2 j50_n100021_0_f2_3 j50_n100021_0_f2_4 j50_n100021_0_f3
        l75_n100021_0_4_f0 l75_n100021_0_4_f1 l75_n100021_0_4_f2 l75_n100021_0_5_f0 l75_n100021_0_5_f1 j50_n100022_0) (orE (fun (l98_6,
        l98_n100021_0_f0, l98_n100021_0_f1, l98_n100021_0_f2_0, l98_n100021_0_f2_1, l98_n100021_0_f2_2, l98_n100021_0_f2_3, l98_n100021_0_f2_4,
        l98_n100021_0_f3, l98_n100021_0_4_f0, l98_n100021_0_4_f1, l98_n100021_0_4_f2, l98_n100021_0_5_f0, l98_n100021_0_5_f1, l98_n100022_0) =>
        (Option.bind (m_rollback_Engine_Known F (T_rollback_Engine.mk l98_n100021_0_f0 l98_n100021_0_f1 (T_api_State.mk l98_n100021_0_f2_0
        l98_n100021_0_f2_1 l98_n100021_0_f2_2 l98_n100021_0_f2_3 l98_n100021_0_f2_4) l98_n100021_0_f3) (T_queue_Queue.mk l98_n100021_0_4_f0
        l98_n100021_0_4_f1 l98_n100021_0_4_f2) (T_ring_Ring.mk l98_n100021_0_5_f0 l98_n100021_0_5_f1)) fun v178 => (cond (v178 != (IntKind.wrap .u64
        (IntKind.wrap .i64 ((IntKind.wrap .i64 (Int.tmod p0.Sure 60)) + v64)))) (some (.inr false)) (m_hindcastlaw28_BackfillFills_L49_1 F p0 p2 v64
        l35_n66_0 n (IntKind.wrap .i64 (j50_14 + (1 : Int))) l98_n100021_0_f0 l98_n100021_0_f1 l98_n100021_0_f2_0 l98_n100021_0_f2_1
        l98_n100021_0_f2_2 l98_n100021_0_f2_3 l98_n100021_0_f2_4 l98_n100021_0_f3 l98_n100021_0_4_f0 l98_n100021_0_4_f1 l98_n100021_0_4_f2
        l98_n100021_0_5_f0 l98_n100021_0_5_f1 l98_n100022_0)))) (fun r98 => some (.inr r98))))) (fun r75 => some (.inr r75)))))))))))) (some (.inl
        (false, j50_n100021_0_f0, j50_n100021_0_f1, j50_n100021_0_f2_0, j50_n100021_0_f2_1, j50_n100021_0_f2_2, j50_n100021_0_f2_3,
        j50_n100021_0_f2_4, j50_n100021_0_f3, j50_n100021_0_4_f0, j50_n100021_0_4_f1, j50_n100021_0_4_f2, j50_n100021_0_5_f0, j50_n100021_0_5_f1,
        j50_n100022_0))))

def m_hindcastlaw28_BackfillFills (F : Nat) (p0 : T_hindcastlaw28_Setup) (p1 : Int) (p2 : Bool) : Option (Bool) :=
  (Option.bind (cond (decide ((100 : Int) < (p0.Mine.length : Int))) (some (true)) (some ((decide ((100 : Int) < (p0.Theirs.length : Int)))))) fun v33
    => (cond v33 (Option.bind (m_hindcastlaw28_works F) fun v34 => some v34) (Option.bind (m_state_Start F p0.Seed) fun v100012 => (Option.bind
    (m_rollback_New F v100012 (Int.tmod p0.Player 2) (IntKind.wrap .i64 ((1 : Int) + (IntKind.wrap .i64 (Int.tmod p0.Window 12))))) fun v100021 => poE
    ((Option.bind (m_fold_New F (0 : Int) (256 : Int)) fun v100022 => poE ((Option.bind (m_hindcastlaw28_BackfillFills_L100012 F p0 F (0 : Int)) fun _
    => (Option.bind (m_hindcastlaw28_BackfillFills_L100033 F p0 F (IntKind.wrap .i64 (Int.tmod p0.Sure 60))) fun _ => (Option.bind
    (m_hindcastlaw28_BackfillFills_L100048 F p0 F (IntKind.wrap .i64 (Int.tmod p0.Sure 60))) fun _ => (Option.bind (m_fold_History_Drop_nil0 F
    (IntKind.wrap .u64 (Int.tmod (0 : Int) 80))) fun _ => some false))))) (fun v100022s => (Option.bind (m_hindcastlaw28_BackfillFills_L100012_1 F p0
    F (0 : Int) v100022s) fun l100013_n100022_0 => (Option.bind (m_hindcastlaw28_BackfillFills_L100033_1 F p0 F (IntKind.wrap .i64 (Int.tmod p0.Sure
    60))) fun _ => (Option.bind (m_hindcastlaw28_BackfillFills_L100048_1 F p0 F (IntKind.wrap .i64 (Int.tmod p0.Sure 60))) fun _ => (Option.bind
    (m_fold_History_Drop F l100013_n100022_0 (IntKind.wrap .u64 (Int.tmod (0 : Int) 80))) fun o100097_0 => some false))))) v100022)) (fun v100021s =>
    (Option.bind (m_fold_New F (0 : Int) (256 : Int)) fun v100022 => poE ((Option.bind (m_hindcastlaw28_BackfillFills_L100012_2 F p0 F (0 : Int)
    v100021s.1.player v100021s.1.window v100021s.1.sure.Frame v100021s.1.sure.Seed v100021s.1.sure.Players v100021s.1.sure.Shots v100021s.1.sure.Score
    v100021s.1.own v100021s.2.1.first_ v100021s.2.1.l v100021s.2.1.last v100021s.2.2.size v100021s.2.2.places) fun (l100013_n100021_0_f0,
    l100013_n100021_0_f1, l100013_n100021_0_f2_0, l100013_n100021_0_f2_1, l100013_n100021_0_f2_2, l100013_n100021_0_f2_3, l100013_n100021_0_f2_4,
    l100013_n100021_0_f3, l100013_n100021_0_4_f0, l100013_n100021_0_4_f1, l100013_n100021_0_4_f2, l100013_n100021_0_5_f0, l100013_n100021_0_5_f1) =>
    (Option.bind (m_hindcastlaw28_BackfillFills_L100033_2 F p0 l100013_n100021_0_4_f0 l100013_n100021_0_4_f1 l100013_n100021_0_4_f2
    l100013_n100021_0_5_f0 l100013_n100021_0_5_f1 F (IntKind.wrap .i64 (Int.tmod p0.Sure 60)) l100013_n100021_0_f0 l100013_n100021_0_f1
    l100013_n100021_0_f2_0 l100013_n100021_0_f2_1 l100013_n100021_0_f2_2 l100013_n100021_0_f2_3 l100013_n100021_0_f2_4 l100013_n100021_0_f3) fun
    (l100034_n100021_0_f0, l100034_n100021_0_f1, l100034_n100021_0_f2_0, l100034_n100021_0_f2_1, l100034_n100021_0_f2_2, l100034_n100021_0_f2_3,
    l100034_n100021_0_f2_4, l100034_n100021_0_f3) => (Option.bind (m_hindcastlaw28_BackfillFills_L100048_2 F p0 l100034_n100021_0_f0
    l100034_n100021_0_f1 l100034_n100021_0_f2_0 l100034_n100021_0_f2_1 l100034_n100021_0_f2_2 l100034_n100021_0_f2_3 l100034_n100021_0_f2_4
    l100034_n100021_0_f3 F (IntKind.wrap .i64 (Int.tmod p0.Sure 60)) l100013_n100021_0_4_f0 l100013_n100021_0_4_f1 l100013_n100021_0_4_f2
    l100013_n100021_0_5_f0 l100013_n100021_0_5_f1) fun (l100049_n100021_0_4_f0, l100049_n100021_0_4_f1, l100049_n100021_0_4_f2,
    l100049_n100021_0_5_f0, l100049_n100021_0_5_f1) => (Option.bind (m_fold_History_Drop_nil0 F (IntKind.wrap .u64 (Int.tmod (0 : Int) 80))) fun _ =>
    some false))))) (fun v100022s => (Option.bind (m_hindcastlaw28_BackfillFills_L100012_3 F p0 F (0 : Int) v100021s.1.player v100021s.1.window
    v100021s.1.sure.Frame v100021s.1.sure.Seed v100021s.1.sure.Players v100021s.1.sure.Shots v100021s.1.sure.Score v100021s.1.own v100021s.2.1.first_
    v100021s.2.1.l v100021s.2.1.last v100021s.2.2.size v100021s.2.2.places v100022s) fun (l100013_n100021_0_f0, l100013_n100021_0_f1,
    l100013_n100021_0_f2_0, l100013_n100021_0_f2_1, l100013_n100021_0_f2_2, l100013_n100021_0_f2_3, l100013_n100021_0_f2_4, l100013_n100021_0_f3,
    l100013_n100021_0_4_f0, l100013_n100021_0_4_f1, l100013_n100021_0_4_f2, l100013_n100021_0_5_f0, l100013_n100021_0_5_f1, l100013_n100022_0) =>
    (Option.bind (m_hindcastlaw28_BackfillFills_L100033_3 F p0 l100013_n100021_0_4_f0 l100013_n100021_0_4_f1 l100013_n100021_0_4_f2
    l100013_n100021_0_5_f0 l100013_n100021_0_5_f1 F (IntKind.wrap .i64 (Int.tmod p0.Sure 60)) l100013_n100021_0_f0 l100013_n100021_0_f1
    l100013_n100021_0_f2_0 l100013_n100021_0_f2_1 l100013_n100021_0_f2_2 l100013_n100021_0_f2_3 l100013_n100021_0_f2_4 l100013_n100021_0_f3) fun
    (l100034_n100021_0_f0, l100034_n100021_0_f1, l100034_n100021_0_f2_0, l100034_n100021_0_f2_1, l100034_n100021_0_f2_2, l100034_n100021_0_f2_3,
    l100034_n100021_0_f2_4, l100034_n100021_0_f3) => (Option.bind (m_hindcastlaw28_BackfillFills_L100048_3 F p0 l100034_n100021_0_f0
    l100034_n100021_0_f1 l100034_n100021_0_f2_0 l100034_n100021_0_f2_1 l100034_n100021_0_f2_2 l100034_n100021_0_f2_3 l100034_n100021_0_f2_4
    l100034_n100021_0_f3 F (IntKind.wrap .i64 (Int.tmod p0.Sure 60)) l100013_n100021_0_4_f0 l100013_n100021_0_4_f1 l100013_n100021_0_4_f2
    l100013_n100021_0_5_f0 l100013_n100021_0_5_f1) fun (l100049_n100021_0_4_f0, l100049_n100021_0_4_f1, l100049_n100021_0_4_f2,
    l100049_n100021_0_5_f0, l100049_n100021_0_5_f1) => (Option.bind (m_fold_History_Drop F l100013_n100022_0 (IntKind.wrap .u64 (Int.tmod (0 : Int)
    80))) fun o100097_0 => (Option.bind (remI (IntKind.wrap .i64 p1) (IntKind.wrap .i64 ((1 : Int) + (IntKind.wrap .i64 (Int.tmod p0.Window 12)))))
    fun v64 => (Option.bind (m_fold_New F (0 : Int) (256 : Int)) fun v66 => poE ((Option.bind (m_hindcastlaw28_BackfillFills_L34 F p0 v64 F (0 : Int))
    fun _ => (Option.bind (m_hindcastlaw28_BackfillFills_L49 F p0 p2 v64 F (0 : Int) l100034_n100021_0_f0 l100034_n100021_0_f1 l100034_n100021_0_f2_0
    l100034_n100021_0_f2_1 l100034_n100021_0_f2_2 l100034_n100021_0_f2_3 l100034_n100021_0_f2_4 l100034_n100021_0_f3 l100049_n100021_0_4_f0
    l100049_n100021_0_4_f1 l100049_n100021_0_4_f2 l100049_n100021_0_5_f0 l100049_n100021_0_5_f1 o100097_0) (orE (fun (l50_6, l50_n100021_0_f0,
    l50_n100021_0_f1, l50_n100021_0_f2_0, l50_n100021_0_f2_1, l50_n100021_0_f2_2, l50_n100021_0_f2_3, l50_n100021_0_f2_4, l50_n100021_0_f3,
    l50_n100021_0_4_f0, l50_n100021_0_4_f1, l50_n100021_0_4_f2, l50_n100021_0_5_f0, l50_n100021_0_5_f1, l50_n100022_0) => (Option.bind
    (m_hindcastlaw28_works F) fun v182 => some v182)) (fun r50 => some r50))))) (fun v66s => (Option.bind (m_hindcastlaw28_BackfillFills_L34_1 F p0
    v64 F (0 : Int) v66s) fun l35_n66_0 => (Option.bind (m_hindcastlaw28_BackfillFills_L49_1 F p0 p2 v64 l35_n66_0 F (0 : Int) l100034_n100021_0_f0
    l100034_n100021_0_f1 l100034_n100021_0_f2_0 l100034_n100021_0_f2_1 l100034_n100021_0_f2_2 l100034_n100021_0_f2_3 l100034_n100021_0_f2_4
    l100034_n100021_0_f3 l100049_n100021_0_4_f0 l100049_n100021_0_4_f1 l100049_n100021_0_4_f2 l100049_n100021_0_5_f0 l100049_n100021_0_5_f1 o100097_0)
    (orE (fun (l50_6, l50_n100021_0_f0, l50_n100021_0_f1, l50_n100021_0_f2_0, l50_n100021_0_f2_1, l50_n100021_0_f2_2, l50_n100021_0_f2_3,
    l50_n100021_0_f2_4, l50_n100021_0_f3, l50_n100021_0_4_f0, l50_n100021_0_4_f1, l50_n100021_0_4_f2, l50_n100021_0_5_f0, l50_n100021_0_5_f1,
    l50_n100022_0) => (Option.bind (m_hindcastlaw28_works F) fun v182 => some v182)) (fun r50 => some r50))))) v66))))))) v100022)) v100021))))

end Go.Proofs.YtkdbpenjkcjimaaDoor
