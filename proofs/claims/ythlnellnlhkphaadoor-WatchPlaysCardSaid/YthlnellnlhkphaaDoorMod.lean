/-
  Models of the functions of the chapter: what each computes, as a Lean function (none: it is not said). Printed by a program of this claim's own.
-/
import Derived.Test.YthlnellnlhkphaaDoorEng5
namespace Go.Proofs.YthlnellnlhkphaaDoor
open Go.Proofs.YthlnellnlhkphaaDoor.Eng
set_option linter.unusedVariables false
set_option linter.unusedSimpArgs false

structure T_api_Player where
  X : Int
  Y : Int
  VX : Int
  VY : Int
  Health : Int
  Cool : Int
  Face : Int
theorem T_api_Player.eta (x : T_api_Player) : T_api_Player.mk x.X x.Y x.VX x.VY x.Health x.Cool x.Face = x := rfl

def c_T_api_Player (x : T_api_Player) : List Value := [.int .i32 x.X, .int .i32 x.Y, .int .i32 x.VX, .int .i32 x.VY, .int .u8 x.Health, .int .u8 x.Cool, .int .u8 x.Face]
theorem c_T_api_Player_len (x : T_api_Player) : (c_T_api_Player x).length = 7 := rfl

structure T_api_Shot where
  X : Int
  Y : Int
  VX : Int
  VY : Int
  Owner : Int
  Life : Int
theorem T_api_Shot.eta (x : T_api_Shot) : T_api_Shot.mk x.X x.Y x.VX x.VY x.Owner x.Life = x := rfl

def c_T_api_Shot (x : T_api_Shot) : List Value := [.int .i32 x.X, .int .i32 x.Y, .int .i32 x.VX, .int .i32 x.VY, .int .u8 x.Owner, .int .u8 x.Life]
theorem c_T_api_Shot_len (x : T_api_Shot) : (c_T_api_Shot x).length = 6 := rfl

structure T_api_State where
  Frame : Int
  Seed : Int
  Players : (T_api_Player × T_api_Player)
  Shots : (List T_api_Shot)
  Score : (Int × Int)
theorem T_api_State.eta (x : T_api_State) : T_api_State.mk x.Frame x.Seed x.Players x.Shots x.Score = x := rfl

structure T_hindcastlaw29_Act where
  What : Int
  F : Int
  Sum : Int
  S : T_api_State
theorem T_hindcastlaw29_Act.eta (x : T_hindcastlaw29_Act) : T_hindcastlaw29_Act.mk x.What x.F x.Sum x.S = x := rfl

def cg_T_hindcastlaw29_Act (p : T_hindcastlaw29_Act × G) : List Value := [.int .u8 p.1.What, .int .u64 p.1.F, .int .u64 p.1.Sum, .int .u64 p.1.S.Frame, .int .u64 p.1.S.Seed, .int .i32 p.1.S.Players.1.X, .int .i32 p.1.S.Players.1.Y, .int .i32 p.1.S.Players.1.VX, .int .i32 p.1.S.Players.1.VY, .int .u8 p.1.S.Players.1.Health, .int .u8 p.1.S.Players.1.Cool, .int .u8 p.1.S.Players.1.Face, .int .i32 p.1.S.Players.2.X, .int .i32 p.1.S.Players.2.Y, .int .i32 p.1.S.Players.2.VX, .int .i32 p.1.S.Players.2.VY, .int .u8 p.1.S.Players.2.Health, .int .u8 p.1.S.Players.2.Cool, .int .u8 p.1.S.Players.2.Face, .slice p.2.1 p.2.2.1 p.2.2.2, .int .u16 p.1.S.Score.1, .int .u16 p.1.S.Score.2]
theorem cg_T_hindcastlaw29_Act_len (p : T_hindcastlaw29_Act × G) : (cg_T_hindcastlaw29_Act p).length = 22 := rfl
def sh_T_hindcastlaw29_Act (x : T_hindcastlaw29_Act) : List T_api_Shot := x.S.Shots

structure T_watch_sum where
  n : Int
  is_ : Bool
theorem T_watch_sum.eta (x : T_watch_sum) : T_watch_sum.mk x.n x.is_ = x := rfl

def c_T_watch_sum (x : T_watch_sum) : List Value := [.int .u64 x.n, .bool x.is_]
theorem c_T_watch_sum_len (x : T_watch_sum) : (c_T_watch_sum x).length = 2 := rfl

structure T_watch_entry where
  f : Int
  own : T_watch_sum
  other : T_watch_sum
theorem T_watch_entry.eta (x : T_watch_entry) : T_watch_entry.mk x.f x.own x.other = x := rfl

def c_T_watch_entry (x : T_watch_entry) : List Value := [.int .u64 x.f, .int .u64 x.own.n, .bool x.own.is_, .int .u64 x.other.n, .bool x.other.is_]
theorem c_T_watch_entry_len (x : T_watch_entry) : (c_T_watch_entry x).length = 5 := rfl

structure T_watch_Watch where
  rows : Int
  l : (List T_watch_entry)
  clashed : Bool
theorem T_watch_Watch.eta (x : T_watch_Watch) : T_watch_Watch.mk x.rows x.l x.clashed = x := rfl

structure T_hindcastref29_Entry where
  F : Int
  Sum : (Int × Int)
  Is : (Bool × Bool)
theorem T_hindcastref29_Entry.eta (x : T_hindcastref29_Entry) : T_hindcastref29_Entry.mk x.F x.Sum x.Is = x := rfl

def c_T_hindcastref29_Entry (x : T_hindcastref29_Entry) : List Value := [.int .u64 x.F, .int .u64 x.Sum.1, .int .u64 x.Sum.2, .bool x.Is.1, .bool x.Is.2]
theorem c_T_hindcastref29_Entry_len (x : T_hindcastref29_Entry) : (c_T_hindcastref29_Entry x).length = 5 := rfl

structure T_hindcastref29_Watch where
  Rows : Int
  L : (List T_hindcastref29_Entry)
  Clashed : Bool
theorem T_hindcastref29_Watch.eta (x : T_hindcastref29_Watch) : T_hindcastref29_Watch.mk x.Rows x.L x.Clashed = x := rfl

def gl_state_playerBounds : List Value := [.int .i32 (0 : Int), .int .i32 (61440 : Int), .int .i32 (0 : Int), .int .i32 (28672 : Int), .int .i32 ((-1024) : Int), .int .i32 (1024 : Int), .int .i32 ((-1024) : Int), .int .i32 (1024 : Int), .int .i32 (1 : Int), .int .i32 (100 : Int), .int .i32 (0 : Int), .int .i32 (30 : Int), .int .i32 (0 : Int), .int .i32 (3 : Int)]

def gl_state_shotBounds : List Value := [.int .i32 (0 : Int), .int .i32 (65024 : Int), .int .i32 (0 : Int), .int .i32 (32256 : Int), .int .i32 ((-2048) : Int), .int .i32 (2048 : Int), .int .i32 ((-2048) : Int), .int .i32 (2048 : Int), .int .i32 (0 : Int), .int .i32 (1 : Int), .int .i32 (1 : Int), .int .i32 (40 : Int)]

structure T_codec_Writer where
  b : (List Int)
theorem T_codec_Writer.eta (x : T_codec_Writer) : T_codec_Writer.mk x.b = x := rfl

def m_watch_New (F : Nat) (p0 : Int) : Option ((Option T_watch_Watch)) :=
  (Option.bind (cond (decide (p0 < (1 : Int))) (some (true)) (some ((decide ((256 : Int) < p0))))) fun v8 => (cond v8 (some none) (some (some
    (T_watch_Watch.mk (IntKind.wrap .u64 p0) ([] : List T_watch_entry) false)))))

def m_hindcastref29_May (F : Nat) (p0 : Int) : Option (Bool) :=
  (Option.bind (cond (decide ((1 : Int) ≤ p0)) (some ((decide (p0 ≤ (256 : Int))))) (some (false))) fun v8 => some v8)

def m_watch_Watch_is_nil0 (F : Nat) : Option (Bool) :=
  some false

def m_watch_Watch_told_nil0_f3_watch_ownSide (F : Nat) (p1 : Int) (p2 : Int) : Option (Int) :=
  (Option.bind (m_watch_Watch_is_nil0 F) fun v13 => (cond (!v13) (some (1 : Int)) none))

def m_watch_Watch_Own_nil0 (F : Nat) (p1 : Int) (p2 : Int) : Option (Int) :=
  (Option.bind (m_watch_Watch_told_nil0_f3_watch_ownSide F p1 p2) fun v10 => some v10)

def m_watch_Watch_told_nil0_f3_watch_otherSide (F : Nat) (p1 : Int) (p2 : Int) : Option (Int) :=
  (Option.bind (m_watch_Watch_is_nil0 F) fun v13 => (cond (!v13) (some (1 : Int)) none))

def m_watch_Watch_Other_nil0 (F : Nat) (p1 : Int) (p2 : Int) : Option (Int) :=
  (Option.bind (m_watch_Watch_told_nil0_f3_watch_otherSide F p1 p2) fun v10 => some v10)

def m_watch_Watch_is (F : Nat) (p0 : T_watch_Watch) : Option (Bool) :=
  some (decide ((0 : Int) < p0.rows))

def m_cmp_isNaN_uint64 (F : Nat) (p0 : Int) : Option (Bool) :=
  some (p0 != p0)

def m_cmp_Compare_uint64 (F : Nat) (p0 : Int) (p1 : Int) : Option (Int) :=
  (Option.bind (m_cmp_isNaN_uint64 F p0) fun v8 => (Option.bind (m_cmp_isNaN_uint64 F p1) fun v10 => (cond v8 (cond v10 (some (0 : Int)) (some (-1 :
    Int))) (cond v10 (some (1 : Int)) (cond (decide (p0 < p1)) (some (-1 : Int)) (cond (decide (p1 < p0)) (some (1 : Int)) (some (0 : Int))))))))

def m_watch_Watch_at_1 (F : Nat) (p0 : T_watch_entry) (p1 : Int) : Option (Int) :=
  (Option.bind (m_cmp_Compare_uint64 F p0.f p1) fun v8 => some v8)

def m_slices_BinarySearchFunc___watch_entry_watch_entry_uint64_f2_watch_Watch_at_1_L8 (F : Nat) (p0 : (List T_watch_entry)) (p1 : Int) : Nat → Int → Int → Option (Int)
  | 0, _, _ => none
  | n + 1, j9_9, j9_10 =>
      (cond (decide (j9_9 < j9_10)) (Option.bind (getI p0 (IntKind.wrap .i64 ((IntKind.wrap .u64 (IntKind.wrap .i64 (j9_9 + j9_10))) / 2 ^ (min 1
        (IntKind.bits .u64))))) fun v27 => (Option.bind (m_watch_Watch_at_1 F v27 p1) fun v30 => (cond (decide (v30 < (0 : Int)))
        (m_slices_BinarySearchFunc___watch_entry_watch_entry_uint64_f2_watch_Watch_at_1_L8 F p0 p1 n (IntKind.wrap .i64 ((IntKind.wrap .i64
        ((IntKind.wrap .u64 (IntKind.wrap .i64 (j9_9 + j9_10))) / 2 ^ (min 1 (IntKind.bits .u64)))) + (1 : Int))) j9_10)
        (m_slices_BinarySearchFunc___watch_entry_watch_entry_uint64_f2_watch_Watch_at_1_L8 F p0 p1 n j9_9 (IntKind.wrap .i64 ((IntKind.wrap .u64
        (IntKind.wrap .i64 (j9_9 + j9_10))) / 2 ^ (min 1 (IntKind.bits .u64)))))))) (some j9_9))

def m_slices_BinarySearchFunc___watch_entry_watch_entry_uint64_f2_watch_Watch_at_1 (F : Nat) (p0 : (List T_watch_entry)) (p1 : Int) : Option (Int × Bool) :=
  (Option.bind (m_slices_BinarySearchFunc___watch_entry_watch_entry_uint64_f2_watch_Watch_at_1_L8 F p0 p1 F (0 : Int) (p0.length : Int)) fun l9_9 =>
    (Option.bind (cond (decide (l9_9 < (p0.length : Int))) ((Option.bind (getI p0 l9_9) fun v43 => (Option.bind (m_watch_Watch_at_1 F v43 p1) fun v46
    => some ((v46 == (0 : Int)))))) (some (false))) fun v48 => some (l9_9, v48)))

def m_watch_Watch_at (F : Nat) (p0 : T_watch_Watch) (p1 : Int) : Option (T_watch_Watch × (Option Int)) :=
  (Option.bind (m_slices_BinarySearchFunc___watch_entry_watch_entry_uint64_f2_watch_Watch_at_1 F p0.l p1) fun (v13_0, v13_1) => (cond v13_1
    (Option.bind (getI p0.l v13_0) fun v67 => some (p0, (some v13_0))) (cond (decide ((p0.l.length : Int) < (8 : Int))) (Option.bind (insM F p0.l
    v13_0 ([(T_watch_entry.mk p1 (T_watch_sum.mk (0 : Int) false) (T_watch_sum.mk (0 : Int) false))] : List T_watch_entry)) fun v56 => (Option.bind
    (getI v56 v13_0) fun v67 => some ((T_watch_Watch.mk p0.rows v56 p0.clashed), (some v13_0)))) (cond (v13_0 == (0 : Int)) (some (p0, none))
    (Option.bind (insM F p0.l v13_0 ([(T_watch_entry.mk p1 (T_watch_sum.mk (0 : Int) false) (T_watch_sum.mk (0 : Int) false))] : List T_watch_entry))
    fun v25 => (Option.bind (delM F v25 (0 : Int) (1 : Int)) fun v33 => (Option.bind (getI v33 (IntKind.wrap .i64 (v13_0 - (1 : Int)))) fun v67 =>
    some ((T_watch_Watch.mk p0.rows v33 p0.clashed), (some (IntKind.wrap .i64 (v13_0 - (1 : Int))))))))))))

def m_watch_Watch_told_f3_watch_ownSide (F : Nat) (p0 : T_watch_Watch) (p1 : Int) (p2 : Int) : Option (T_watch_Watch × Int) :=
  (Option.bind (m_watch_Watch_is F p0) fun v13 => (cond (!v13) (some (p0, (1 : Int))) (Option.bind (remI p1 p0.rows) fun v21 => (cond (v21 != (0 :
    Int)) (some (p0, (2 : Int))) (Option.bind (m_watch_Watch_at F p0 p1) fun (o25_0, v25) => poE ((cond o25_0.clashed (some (o25_0, (14 : Int))) (some
    (o25_0, (0 : Int))))) (fun v25s => (Option.bind (getI o25_0.l v25s) fun v25x => (Option.bind (cond o25_0.clashed (some (true)) ((Option.bind (cond
    v25x.own.is_ (some ((v25x.own.n != p2))) (some (false))) fun v48 => some (v48)))) fun v49 => (cond (!v25x.own.is_) (Option.bind (cond v49 (some
    (true)) ((Option.bind (cond v25x.other.is_ (some ((p2 != v25x.other.n))) (some (false))) fun v91 => some (v91)))) fun v92 => (cond v92 (some
    ((T_watch_Watch.mk o25_0.rows (setI o25_0.l v25s (T_watch_entry.mk v25x.f (T_watch_sum.mk p2 true) v25x.other)) v92), (14 : Int))) (some
    ((T_watch_Watch.mk o25_0.rows (setI o25_0.l v25s (T_watch_entry.mk v25x.f (T_watch_sum.mk p2 true) v25x.other)) v92), (0 : Int))))) (Option.bind
    (cond v49 (some (true)) ((Option.bind (cond v25x.own.is_ (some (v25x.other.is_)) (some (false))) fun v78 => (Option.bind (cond v78 (some
    ((v25x.own.n != v25x.other.n))) (some (false))) fun v91 => some (v91))))) fun v92 => (cond v92 (some ((T_watch_Watch.mk o25_0.rows o25_0.l v92),
    (14 : Int))) (some ((T_watch_Watch.mk o25_0.rows o25_0.l v92), (0 : Int))))))))) v25)))))

def m_watch_Watch_Own (F : Nat) (p0 : T_watch_Watch) (p1 : Int) (p2 : Int) : Option (T_watch_Watch × Int) :=
  (Option.bind (m_watch_Watch_told_f3_watch_ownSide F p0 p1 p2) fun (o10_0, v10) => some (o10_0, v10))

def m_watch_Watch_told_f3_watch_otherSide (F : Nat) (p0 : T_watch_Watch) (p1 : Int) (p2 : Int) : Option (T_watch_Watch × Int) :=
  (Option.bind (m_watch_Watch_is F p0) fun v13 => (cond (!v13) (some (p0, (1 : Int))) (Option.bind (remI p1 p0.rows) fun v21 => (cond (v21 != (0 :
    Int)) (some (p0, (2 : Int))) (Option.bind (m_watch_Watch_at F p0 p1) fun (o25_0, v25) => poE ((cond o25_0.clashed (some (o25_0, (14 : Int))) (some
    (o25_0, (0 : Int))))) (fun v25s => (Option.bind (getI o25_0.l v25s) fun v25x => (Option.bind (cond o25_0.clashed (some (true)) ((Option.bind (cond
    v25x.other.is_ (some ((v25x.other.n != p2))) (some (false))) fun v48 => some (v48)))) fun v49 => (cond (!v25x.other.is_) (Option.bind (cond v49
    (some (true)) ((Option.bind (cond v25x.own.is_ (some (true)) (some (false))) fun v78 => (Option.bind (cond v78 (some ((v25x.own.n != p2))) (some
    (false))) fun v91 => some (v91))))) fun v92 => (cond v92 (some ((T_watch_Watch.mk o25_0.rows (setI o25_0.l v25s (T_watch_entry.mk v25x.f v25x.own
    (T_watch_sum.mk p2 true))) v92), (14 : Int))) (some ((T_watch_Watch.mk o25_0.rows (setI o25_0.l v25s (T_watch_entry.mk v25x.f v25x.own
    (T_watch_sum.mk p2 true))) v92), (0 : Int))))) (Option.bind (cond v49 (some (true)) ((Option.bind (cond v25x.own.is_ (some (v25x.other.is_)) (some
    (false))) fun v78 => (Option.bind (cond v78 (some ((v25x.own.n != v25x.other.n))) (some (false))) fun v91 => some (v91))))) fun v92 => (cond v92
    (some ((T_watch_Watch.mk o25_0.rows o25_0.l v92), (14 : Int))) (some ((T_watch_Watch.mk o25_0.rows o25_0.l v92), (0 : Int))))))))) v25)))))

def m_watch_Watch_Other (F : Nat) (p0 : T_watch_Watch) (p1 : Int) (p2 : Int) : Option (T_watch_Watch × Int) :=
  (Option.bind (m_watch_Watch_told_f3_watch_otherSide F p0 p1 p2) fun (o10_0, v10) => some (o10_0, v10))

def m_watch_Watch_Agreed_L14 (F : Nat) (p0 : T_watch_Watch) : Nat → Int → Bool → Int → Option (Int × Bool)
  | 0, _, _, _ => none
  | n + 1, j15_2, j15_3, j15_14 =>
      (cond (decide (j15_14 < (p0.l.length : Int))) (Option.bind (getI p0.l j15_14) fun v16 => (Option.bind (cond v16.own.is_ (some (((v16.own.n ==
        v16.other.n) && (v16.own.is_ == v16.other.is_)))) (some (false))) fun v27 => (cond v27 (m_watch_Watch_Agreed_L14 F p0 n v16.f true
        (IntKind.wrap .i64 (j15_14 + (1 : Int)))) (m_watch_Watch_Agreed_L14 F p0 n j15_2 j15_3 (IntKind.wrap .i64 (j15_14 + (1 : Int))))))) (some
        (j15_2, j15_3)))

def m_watch_Watch_Agreed (F : Nat) (p0 : T_watch_Watch) : Option (Int × Bool) :=
  (Option.bind (m_watch_Watch_is F p0) fun v7 => (cond (!v7) (some ((0 : Int), false)) (Option.bind (m_watch_Watch_Agreed_L14 F p0 F (0 : Int) false
    (0 : Int)) fun (l15_2, l15_3) => some (l15_2, l15_3))))

def m_watch_Watch_Clashed (F : Nat) (p0 : T_watch_Watch) : Option (Bool) :=
  (Option.bind (m_watch_Watch_is F p0) fun v4 => (Option.bind (cond v4 (some (p0.clashed)) (some (false))) fun v10 => some v10))

def m_hindcastlaw29_awake (F : Nat) : Option (Bool) :=
  (Option.bind (m_watch_New F (4 : Int)) fun v4 => poE (some false) (fun v4s => (Option.bind (m_watch_Watch_Own F v4s (4 : Int) (7 : Int)) fun (o9_0,
    v9) => (Option.bind (cond (v9 != (0 : Int)) (some (true, o9_0.rows, o9_0.l, o9_0.clashed)) ((Option.bind (m_watch_Watch_Other F o9_0 (4 : Int) (7
    : Int)) fun (o14_0, v14) => some ((v14 != (0 : Int)), o14_0.rows, o14_0.l, o14_0.clashed)))) fun (v16, g16_n4_0_f0, g16_n4_0_f1, g16_n4_0_f2) =>
    (Option.bind (cond v16 (some (true, g16_n4_0_f0, g16_n4_0_f1, g16_n4_0_f2)) ((Option.bind (m_watch_Watch_Other F (T_watch_Watch.mk g16_n4_0_f0
    g16_n4_0_f1 g16_n4_0_f2) (6 : Int) (1 : Int)) fun (o19_0, v19) => some ((v19 != (2 : Int)), o19_0.rows, o19_0.l, o19_0.clashed)))) fun (v21,
    g21_n4_0_f0, g21_n4_0_f1, g21_n4_0_f2) => (cond v21 (some false) (Option.bind (m_watch_Watch_Agreed F (T_watch_Watch.mk g21_n4_0_f0 g21_n4_0_f1
    g21_n4_0_f2)) fun (v24_0, v24_1) => (Option.bind (cond (v24_0 == (4 : Int)) (some (v24_1)) (some (false))) fun v31 => (Option.bind (cond v31
    ((Option.bind (m_watch_Watch_Other F (T_watch_Watch.mk g21_n4_0_f0 g21_n4_0_f1 g21_n4_0_f2) (8 : Int) (1 : Int)) fun (o34_0, v34) => some ((v34 ==
    (0 : Int)), o34_0.rows, o34_0.l, o34_0.clashed))) (some (false, g21_n4_0_f0, g21_n4_0_f1, g21_n4_0_f2))) fun (v36, g36_n4_0_f0, g36_n4_0_f1,
    g36_n4_0_f2) => (Option.bind (cond v36 ((Option.bind (m_watch_Watch_Own F (T_watch_Watch.mk g36_n4_0_f0 g36_n4_0_f1 g36_n4_0_f2) (8 : Int) (9 :
    Int)) fun (o39_0, v39) => some ((v39 == (14 : Int)), o39_0.rows, o39_0.l, o39_0.clashed))) (some (false, g36_n4_0_f0, g36_n4_0_f1, g36_n4_0_f2)))
    fun (v41, g41_n4_0_f0, g41_n4_0_f1, g41_n4_0_f2) => (Option.bind (cond v41 ((Option.bind (m_watch_Watch_Clashed F (T_watch_Watch.mk g41_n4_0_f0
    g41_n4_0_f1 g41_n4_0_f2)) fun v44 => some (v44))) (some (false))) fun v45 => some v45)))))))))) v4)

def m_hindcastlaw29_few_L6 (F : Nat) (p0 : (List T_hindcastlaw29_Act)) : Nat → Int → Option ((Bool) ⊕ (Bool))
  | 0, _ => none
  | n + 1, j7_3 =>
      (Option.bind (cond (decide (j7_3 < (p0.length : Int))) (some ((decide (j7_3 < (130 : Int))))) (some (false))) fun v11 => (cond v11 (Option.bind
        (getI p0 j7_3) fun v16 => (cond (decide ((100 : Int) < (v16.S.Shots.length : Int))) (some (.inr false)) (m_hindcastlaw29_few_L6 F p0 n
        (IntKind.wrap .i64 (j7_3 + (1 : Int)))))) (some (.inl false))))

def m_hindcastlaw29_few (F : Nat) (p0 : (List T_hindcastlaw29_Act)) : Option (Bool) :=
  (Option.bind (m_hindcastlaw29_few_L6 F p0 F (0 : Int)) (orE (fun l7_2 => some (decide ((p0.length : Int) ≤ (120 : Int)))) (fun r7 => some r7)))

def m_hindcastref29_Watch_find_L6 (F : Nat) (p0 : T_hindcastref29_Watch) (p1 : Int) : Nat → Int → Option ((Int) ⊕ (Int))
  | 0, _ => none
  | n + 1, j7_5 =>
      (cond (decide (j7_5 < (p0.L.length : Int))) (Option.bind (getI p0.L j7_5) fun v20 => (cond (v20.F == p1) (some (.inr j7_5))
        (m_hindcastref29_Watch_find_L6 F p0 p1 n (IntKind.wrap .i64 (j7_5 + (1 : Int)))))) (some (.inl (0 : Int))))

def m_hindcastref29_Watch_find (F : Nat) (p0 : T_hindcastref29_Watch) (p1 : Int) : Option (Int) :=
  (Option.bind (m_hindcastref29_Watch_find_L6 F p0 p1 F (0 : Int)) (orE (fun l7_4 => some (-1 : Int)) (fun r7 => some r7)))

def m_hindcastref29_Watch_least_L8 (F : Nat) (p0 : T_hindcastref29_Watch) : Nat → Int → Int → Option (Int)
  | 0, _, _ => none
  | n + 1, j9_3, j9_4 =>
      (cond (decide (j9_4 < (p0.L.length : Int))) (Option.bind (getI p0.L j9_4) fun v19 => (Option.bind (getI p0.L j9_3) fun v27 => (cond (decide
        (v19.F < v27.F)) (m_hindcastref29_Watch_least_L8 F p0 n j9_4 (IntKind.wrap .i64 (j9_4 + (1 : Int)))) (m_hindcastref29_Watch_least_L8 F p0 n
        j9_3 (IntKind.wrap .i64 (j9_4 + (1 : Int))))))) (some j9_3))

def m_hindcastref29_Watch_least (F : Nat) (p0 : T_hindcastref29_Watch) : Option (Int) :=
  (Option.bind (m_hindcastref29_Watch_least_L8 F p0 F (0 : Int) (0 : Int)) fun l9_3 => some l9_3)

def m_hindcastref29_Watch_place (F : Nat) (p0 : T_hindcastref29_Watch) (p1 : Int) : Option (T_hindcastref29_Watch × Int) :=
  (Option.bind (m_hindcastref29_Watch_find F p0 p1) fun v10 => (cond (decide ((0 : Int) ≤ v10)) (some (p0, v10)) (cond (decide ((8 : Int) ≤
    (p0.L.length : Int))) (Option.bind (m_hindcastref29_Watch_least F p0) fun v21 => (Option.bind (getI p0.L v21) fun v27 => (cond (decide (p1 <
    v27.F)) (some (p0, (-1 : Int))) (Option.bind (cutI p0.L 0 v21) fun v38 => (Option.bind (appI ([] : List T_hindcastref29_Entry) v38) fun v39 =>
    (Option.bind (cutI p0.L (IntKind.wrap .i64 (v21 + (1 : Int))) (p0.L.length : Int)) fun v48 => (Option.bind (appI v39 v48) fun v49 => (Option.bind
    (appI v49 ([(T_hindcastref29_Entry.mk p1 ((0 : Int), (0 : Int)) (false, false))] : List T_hindcastref29_Entry)) fun v60 => some
    ((T_hindcastref29_Watch.mk p0.Rows v60 p0.Clashed), (IntKind.wrap .i64 ((v60.length : Int) - (1 : Int)))))))))))) (Option.bind (appI p0.L
    ([(T_hindcastref29_Entry.mk p1 ((0 : Int), (0 : Int)) (false, false))] : List T_hindcastref29_Entry)) fun v60 => some ((T_hindcastref29_Watch.mk
    p0.Rows v60 p0.Clashed), (IntKind.wrap .i64 ((v60.length : Int) - (1 : Int))))))))

def m_hindcastref29_Watch_Told (F : Nat) (p0 : T_hindcastref29_Watch) (p1 : Int) (p2 : Int) (p3 : Int) : Option (T_hindcastref29_Watch × Int) :=
  (Option.bind (remI p2 p0.Rows) fun v16 => (cond (v16 != (0 : Int)) (some (p0, (2 : Int))) (Option.bind (m_hindcastref29_Watch_place F p0 p2) fun
    (o20_0, v20) => (Option.bind ((cond (decide ((0 : Int) ≤ v20)) (Option.bind (getI o20_0.L v20) fun v28 => (cond (p1 == (0 : Int)) ((Option.bind
    (cond v28.Is.1 (some ((v28.Sum.1 != p3))) (some (false))) fun v41 => (Option.bind ((cond v41 (some true) (some o20_0.Clashed))) fun j22_p0_f2 =>
    (Option.bind ((cond (!v28.Is.1) (some (T_hindcastref29_Entry.mk v28.F (p3, v28.Sum.2) (true, v28.Is.2))) (some v28))) fun j28_n10 => (Option.bind
    (cond j28_n10.Is.1 (some (j28_n10.Is.2)) (some (false))) fun v64 => (Option.bind (cond v64 (some ((j28_n10.Sum.1 != j28_n10.Sum.2))) (some
    (false))) fun v73 => (Option.bind ((cond v73 (some true) (some j22_p0_f2))) fun j36_p0_f2 => (Option.bind (getI o20_0.L v20) fun v83 => some
    ((setI o20_0.L v20 j28_n10), j36_p0_f2))))))))) (cond (p1 == (1 : Int)) ((Option.bind (cond v28.Is.2 (some ((v28.Sum.2 != p3))) (some (false)))
    fun v41 => (Option.bind ((cond v41 (some true) (some o20_0.Clashed))) fun j22_p0_f2 => (Option.bind ((cond (!v28.Is.2) (some
    (T_hindcastref29_Entry.mk v28.F (v28.Sum.1, p3) (v28.Is.1, true))) (some v28))) fun j28_n10 => (Option.bind (cond j28_n10.Is.1 (some
    (j28_n10.Is.2)) (some (false))) fun v64 => (Option.bind (cond v64 (some ((j28_n10.Sum.1 != j28_n10.Sum.2))) (some (false))) fun v73 =>
    (Option.bind ((cond v73 (some true) (some j22_p0_f2))) fun j36_p0_f2 => (Option.bind (getI o20_0.L v20) fun v83 => some ((setI o20_0.L v20
    j28_n10), j36_p0_f2))))))))) none))) (some (o20_0.L, o20_0.Clashed)))) fun (j16_p0_f1, j16_p0_f2) => (cond j16_p0_f2 (some
    ((T_hindcastref29_Watch.mk o20_0.Rows j16_p0_f1 j16_p0_f2), (14 : Int))) (some ((T_hindcastref29_Watch.mk o20_0.Rows j16_p0_f1 j16_p0_f2), (0 :
    Int))))))))

def m_state_ofPlayer (F : Nat) (p0 : T_api_Player) : Option ((List Int)) :=
  some ([p0.X, p0.Y, p0.VX, p0.VY, (IntKind.wrap .i32 p0.Health), (IntKind.wrap .i32 p0.Cool), (IntKind.wrap .i32 p0.Face)] : List Int)

def m_state_within_L6 (F : Nat) (p0 : (List Int)) (p1 : (List (Int × Int))) : Nat → Int → Option ((Bool) ⊕ (Bool))
  | 0, _ => none
  | n + 1, j7_8 =>
      (cond (decide (j7_8 < (p0.length : Int))) (Option.bind (getI p0 j7_8) fun v13 => (Option.bind (getI p1 j7_8) fun v17 => (Option.bind (cond
        (decide (v13 < v17.1)) (some (true)) ((Option.bind (getI p0 j7_8) fun v24 => (Option.bind (getI p1 j7_8) fun v28 => some ((decide (v28.2 <
        v24))))))) fun v32 => (cond v32 (some (.inr false)) (m_state_within_L6 F p0 p1 n (IntKind.wrap .i64 (j7_8 + (1 : Int)))))))) (some (.inl
        false)))

def m_state_within (F : Nat) (p0 : (List Int)) (p1 : (List (Int × Int))) : Option (Bool) :=
  (Option.bind (m_state_within_L6 F p0 p1 F (0 : Int)) (orE (fun l7_4 => some true) (fun r7 => some r7)))

def m_state_ofShot (F : Nat) (p0 : T_api_Shot) : Option ((List Int)) :=
  some ([p0.X, p0.Y, p0.VX, p0.VY, (IntKind.wrap .i32 p0.Owner), (IntKind.wrap .i32 p0.Life)] : List Int)

def m_state_Check_1 (F : Nat) (p0 : T_api_Shot) (p1 : (Arr (Int × Int) 6)) : Option (Bool) :=
  (Option.bind (m_state_ofShot F p0) fun v5 => (Option.bind (m_state_within F v5 p1.1) fun v7 => some (!v7)))

def m_slices_IndexFunc___api_Shot_api_Shot_f1_state_Check_1_L6 (F : Nat) (p0 : (List T_api_Shot)) (p1c0 : (Arr (Int × Int) 6)) : Nat → Int → Option ((Int) ⊕ (Int))
  | 0, _ => none
  | n + 1, j7_8 =>
      (cond (decide (j7_8 < (p0.length : Int))) (Option.bind (getI p0 j7_8) fun v14 => (Option.bind (m_state_Check_1 F v14 p1c0) fun v16 => (cond v16
        (some (.inr j7_8)) (m_slices_IndexFunc___api_Shot_api_Shot_f1_state_Check_1_L6 F p0 p1c0 n (IntKind.wrap .i64 (j7_8 + (1 : Int))))))) (some
        (.inl (0 : Int))))

def m_slices_IndexFunc___api_Shot_api_Shot_f1_state_Check_1 (F : Nat) (p0 : (List T_api_Shot)) (p1c0 : (Arr (Int × Int) 6)) : Option (Int) :=
  (Option.bind (m_slices_IndexFunc___api_Shot_api_Shot_f1_state_Check_1_L6 F p0 p1c0 F (0 : Int)) (orE (fun l7_4 => some (-1 : Int)) (fun r7 => some
    r7)))

def m_slices_ContainsFunc___api_Shot_api_Shot_f1_state_Check_1 (F : Nat) (p0 : (List T_api_Shot)) (p1c0 : (Arr (Int × Int) 6)) : Option (Bool) :=
  (Option.bind (m_slices_IndexFunc___api_Shot_api_Shot_f1_state_Check_1 F p0 p1c0) fun v7 => some (decide ((0 : Int) ≤ v7)))

def m_state_Check_L10 (F : Nat) (p0 : T_api_State) : Nat → Bool → Int → Option (Bool)
  | 0, _, _ => none
  | n + 1, j11_5, j11_16 =>
      (cond (decide (j11_16 < (2 : Int))) (cond (j11_16 == (0 : Int)) ((Option.bind (cond j11_5 ((Option.bind (m_state_ofPlayer F p0.Players.1) fun
        v22 => (Option.bind (m_state_within F v22 ([((0 : Int), (61440 : Int)), ((0 : Int), (28672 : Int)), (((-1024) : Int), (1024 : Int)), (((-1024)
        : Int), (1024 : Int)), ((1 : Int), (100 : Int)), ((0 : Int), (30 : Int)), ((0 : Int), (3 : Int))] : List (Int × Int))) fun v24 => some
        (v24)))) (some (false))) fun v25 => m_state_Check_L10 F p0 n v25 (IntKind.wrap .i64 (j11_16 + (1 : Int))))) (cond (j11_16 == (1 : Int))
        ((Option.bind (cond j11_5 ((Option.bind (m_state_ofPlayer F p0.Players.2) fun v22 => (Option.bind (m_state_within F v22 ([((0 : Int), (61440 :
        Int)), ((0 : Int), (28672 : Int)), (((-1024) : Int), (1024 : Int)), (((-1024) : Int), (1024 : Int)), ((1 : Int), (100 : Int)), ((0 : Int), (30
        : Int)), ((0 : Int), (3 : Int))] : List (Int × Int))) fun v24 => some (v24)))) (some (false))) fun v25 => m_state_Check_L10 F p0 n v25
        (IntKind.wrap .i64 (j11_16 + (1 : Int))))) none)) (some j11_5))

def m_state_Check (F : Nat) (p0 : T_api_State) : Option (Int) :=
  (Option.bind (m_state_Check_L10 F p0 F (decide ((p0.Shots.length : Int) ≤ (8 : Int))) (0 : Int)) fun l11_5 => (Option.bind (cond (!l11_5) (some
    (true)) ((Option.bind (m_slices_ContainsFunc___api_Shot_api_Shot_f1_state_Check_1 F p0.Shots (⟨[((0 : Int), (65024 : Int)), ((0 : Int), (32256 :
    Int)), (((-2048) : Int), (2048 : Int)), (((-2048) : Int), (2048 : Int)), ((0 : Int), (1 : Int)), ((1 : Int), (40 : Int))], rfl⟩ : Arr (Int × Int)
    6)) fun v33 => some (v33)))) fun v34 => (cond v34 (some (4 : Int)) (some (0 : Int)))))

def m_codec_put_uint64_L9 (F : Nat) (p1 : Int) (p2 : Int) : Nat → Int → (List Int) → Option ((List Int))
  | 0, _, _ => none
  | n + 1, j10_10, j10_p0_f0 =>
      (cond (decide (j10_10 < p2)) (Option.bind (shrI .u64 p1 (IntKind.wrap .i64 ((8 : Int) * j10_10))) fun v21 => (Option.bind (appI j10_p0_f0
        ([(IntKind.wrap .u8 v21)] : List Int)) fun v24 => m_codec_put_uint64_L9 F p1 p2 n (IntKind.wrap .i64 (j10_10 + (1 : Int))) v24)) (some
        j10_p0_f0))

def m_codec_put_uint64 (F : Nat) (p0 : T_codec_Writer) (p1 : Int) (p2 : Int) : Option (T_codec_Writer) :=
  (Option.bind (m_codec_put_uint64_L9 F p1 p2 F (0 : Int) p0.b) fun l10_p0_f0 => some (T_codec_Writer.mk l10_p0_f0))

def m_codec_Writer_U64 (F : Nat) (p0 : T_codec_Writer) (p1 : Int) : Option (T_codec_Writer) :=
  (Option.bind (m_codec_put_uint64 F p0 p1 (8 : Int)) fun o6_0 => some o6_0)

def m_codec_put_uint32_L9 (F : Nat) (p1 : Int) (p2 : Int) : Nat → Int → (List Int) → Option ((List Int))
  | 0, _, _ => none
  | n + 1, j10_10, j10_p0_f0 =>
      (cond (decide (j10_10 < p2)) (Option.bind (shrI .u64 (IntKind.wrap .u64 p1) (IntKind.wrap .i64 ((8 : Int) * j10_10))) fun v22 => (Option.bind
        (appI j10_p0_f0 ([(IntKind.wrap .u8 v22)] : List Int)) fun v25 => m_codec_put_uint32_L9 F p1 p2 n (IntKind.wrap .i64 (j10_10 + (1 : Int)))
        v25)) (some j10_p0_f0))

def m_codec_put_uint32 (F : Nat) (p0 : T_codec_Writer) (p1 : Int) (p2 : Int) : Option (T_codec_Writer) :=
  (Option.bind (m_codec_put_uint32_L9 F p1 p2 F (0 : Int) p0.b) fun l10_p0_f0 => some (T_codec_Writer.mk l10_p0_f0))

def m_codec_Writer_I32 (F : Nat) (p0 : T_codec_Writer) (p1 : Int) : Option (T_codec_Writer) :=
  (Option.bind (m_codec_put_uint32 F p0 (IntKind.wrap .u32 p1) (4 : Int)) fun o7_0 => some o7_0)

def m_codec_put_uint8_L9 (F : Nat) (p1 : Int) (p2 : Int) : Nat → Int → (List Int) → Option ((List Int))
  | 0, _, _ => none
  | n + 1, j10_10, j10_p0_f0 =>
      (cond (decide (j10_10 < p2)) (Option.bind (shrI .u64 (IntKind.wrap .u64 p1) (IntKind.wrap .i64 ((8 : Int) * j10_10))) fun v22 => (Option.bind
        (appI j10_p0_f0 ([(IntKind.wrap .u8 v22)] : List Int)) fun v25 => m_codec_put_uint8_L9 F p1 p2 n (IntKind.wrap .i64 (j10_10 + (1 : Int)))
        v25)) (some j10_p0_f0))

def m_codec_put_uint8 (F : Nat) (p0 : T_codec_Writer) (p1 : Int) (p2 : Int) : Option (T_codec_Writer) :=
  (Option.bind (m_codec_put_uint8_L9 F p1 p2 F (0 : Int) p0.b) fun l10_p0_f0 => some (T_codec_Writer.mk l10_p0_f0))

def m_codec_Writer_U8 (F : Nat) (p0 : T_codec_Writer) (p1 : Int) : Option (T_codec_Writer) :=
  (Option.bind (m_codec_put_uint8 F p0 p1 (1 : Int)) fun o6_0 => some o6_0)

def m_state_put_L3 (F : Nat) (p1 : (List Int)) : Nat → Int → (List Int) → Option ((List Int))
  | 0, _, _ => none
  | n + 1, j4_8, j4_p0_f0 =>
      (cond (decide (j4_8 < (p1.length : Int))) (Option.bind (getI p1 j4_8) fun v11 => (cond (decide (j4_8 < (4 : Int))) (Option.bind
        (m_codec_Writer_I32 F (T_codec_Writer.mk j4_p0_f0) v11) fun o17_0 => m_state_put_L3 F p1 n (IntKind.wrap .i64 (j4_8 + (1 : Int))) o17_0.b)
        (Option.bind (m_codec_Writer_U8 F (T_codec_Writer.mk j4_p0_f0) (IntKind.wrap .u8 v11)) fun o21_0 => m_state_put_L3 F p1 n (IntKind.wrap .i64
        (j4_8 + (1 : Int))) o21_0.b))) (some j4_p0_f0))

def m_state_put (F : Nat) (p0 : T_codec_Writer) (p1 : (List Int)) : Option (T_codec_Writer) :=
  (Option.bind (m_state_put_L3 F p1 F (0 : Int) p0.b) fun l4_p0_f0 => some (T_codec_Writer.mk l4_p0_f0))

def m_codec_Writer_Var_L2 (F : Nat) : Nat → Int → (List Int) → Option (Int × (List Int))
  | 0, _, _ => none
  | n + 1, j3_1, j3_p0_f0 =>
      (cond (decide ((127 : Int) < j3_1)) (Option.bind (m_codec_Writer_U8 F (T_codec_Writer.mk j3_p0_f0) (bits .or .u8 (IntKind.wrap .u8 j3_1) (128 :
        Int))) fun o10_0 => m_codec_Writer_Var_L2 F n (j3_1 / 2 ^ (min 7 (IntKind.bits .u64))) o10_0.b) (some (j3_1, j3_p0_f0)))

def m_codec_Writer_Var (F : Nat) (p0 : T_codec_Writer) (p1 : Int) : Option (T_codec_Writer) :=
  (Option.bind (m_codec_Writer_Var_L2 F F p1 p0.b) fun (l3_1, l3_p0_f0) => (Option.bind (m_codec_Writer_U8 F (T_codec_Writer.mk l3_p0_f0)
    (IntKind.wrap .u8 l3_1)) fun o16_0 => some o16_0))

def m_codec_put_uint16_L9 (F : Nat) (p1 : Int) (p2 : Int) : Nat → Int → (List Int) → Option ((List Int))
  | 0, _, _ => none
  | n + 1, j10_10, j10_p0_f0 =>
      (cond (decide (j10_10 < p2)) (Option.bind (shrI .u64 (IntKind.wrap .u64 p1) (IntKind.wrap .i64 ((8 : Int) * j10_10))) fun v22 => (Option.bind
        (appI j10_p0_f0 ([(IntKind.wrap .u8 v22)] : List Int)) fun v25 => m_codec_put_uint16_L9 F p1 p2 n (IntKind.wrap .i64 (j10_10 + (1 : Int)))
        v25)) (some j10_p0_f0))

def m_codec_put_uint16 (F : Nat) (p0 : T_codec_Writer) (p1 : Int) (p2 : Int) : Option (T_codec_Writer) :=
  (Option.bind (m_codec_put_uint16_L9 F p1 p2 F (0 : Int) p0.b) fun l10_p0_f0 => some (T_codec_Writer.mk l10_p0_f0))

def m_codec_Writer_U16 (F : Nat) (p0 : T_codec_Writer) (p1 : Int) : Option (T_codec_Writer) :=
  (Option.bind (m_codec_put_uint16 F p0 p1 (2 : Int)) fun o6_0 => some o6_0)

def m_codec_Writer_Bytes (F : Nat) (p0 : T_codec_Writer) : Option ((List UInt8)) :=
  some (toB p0.b)

def m_state_Put_L20 (F : Nat) (p0 : T_api_State) : Nat → Int → (List Int) → Option ((List Int))
  | 0, _, _ => none
  | n + 1, j21_21, j21_n3_f0 =>
      (cond (decide (j21_21 < (2 : Int))) (cond (j21_21 == (0 : Int)) ((Option.bind (m_state_ofPlayer F p0.Players.1) fun v25 => (Option.bind
        (m_state_put F (T_codec_Writer.mk j21_n3_f0) v25) fun o26_0 => m_state_Put_L20 F p0 n (IntKind.wrap .i64 (j21_21 + (1 : Int))) o26_0.b)))
        (cond (j21_21 == (1 : Int)) ((Option.bind (m_state_ofPlayer F p0.Players.2) fun v25 => (Option.bind (m_state_put F (T_codec_Writer.mk
        j21_n3_f0) v25) fun o26_0 => m_state_Put_L20 F p0 n (IntKind.wrap .i64 (j21_21 + (1 : Int))) o26_0.b))) none)) (some j21_n3_f0))

def m_state_Put_L39 (F : Nat) (p0 : T_api_State) : Nat → Int → (List Int) → Option ((List Int))
  | 0, _, _ => none
  | n + 1, j40_36, j40_n3_f0 =>
      (cond (decide (j40_36 < (p0.Shots.length : Int))) (Option.bind (getI p0.Shots j40_36) fun v38 => (Option.bind (m_state_ofShot F v38) fun v41 =>
        (Option.bind (m_state_put F (T_codec_Writer.mk j40_n3_f0) v41) fun o42_0 => m_state_Put_L39 F p0 n (IntKind.wrap .i64 (j40_36 + (1 : Int)))
        o42_0.b))) (some j40_n3_f0))

def m_state_Put_L56 (F : Nat) (p0 : T_api_State) : Nat → Int → (List Int) → Option ((List Int))
  | 0, _, _ => none
  | n + 1, j57_46, j57_n3_f0 =>
      (cond (decide (j57_46 < (2 : Int))) (cond (j57_46 == (0 : Int)) ((Option.bind (m_codec_Writer_U16 F (T_codec_Writer.mk j57_n3_f0) p0.Score.1)
        fun o50_0 => m_state_Put_L56 F p0 n (IntKind.wrap .i64 (j57_46 + (1 : Int))) o50_0.b)) (cond (j57_46 == (1 : Int)) ((Option.bind
        (m_codec_Writer_U16 F (T_codec_Writer.mk j57_n3_f0) p0.Score.2) fun o50_0 => m_state_Put_L56 F p0 n (IntKind.wrap .i64 (j57_46 + (1 : Int)))
        o50_0.b)) none)) (some j57_n3_f0))

def m_state_Put (F : Nat) (p0 : T_api_State) : Option ((List UInt8)) :=
  (Option.bind (m_state_Check F p0) fun v11 => (cond (v11 != (0 : Int)) (some ([] : List UInt8)) (Option.bind (m_codec_Writer_U64 F (T_codec_Writer.mk
    ([] : List Int)) p0.Frame) fun o15_0 => (Option.bind (m_codec_Writer_U64 F o15_0 p0.Seed) fun o18_0 => (Option.bind (m_state_Put_L20 F p0 F (0 :
    Int) o18_0.b) fun l21_n3_f0 => (Option.bind (m_codec_Writer_Var F (T_codec_Writer.mk l21_n3_f0) (IntKind.wrap .u64 (p0.Shots.length : Int))) fun
    o32_0 => (Option.bind (m_state_Put_L39 F p0 F (0 : Int) o32_0.b) fun l40_n3_f0 => (Option.bind (m_state_Put_L56 F p0 F (0 : Int) l40_n3_f0) fun
    l57_n3_f0 => (Option.bind (m_codec_Writer_Bytes F (T_codec_Writer.mk l57_n3_f0)) fun v52 => some v52)))))))))

def m_digest_Join_L6 (F : Nat) (p1 : (List UInt8)) : Nat → Int → Int → Option (Int)
  | 0, _, _ => none
  | n + 1, j7_0, j7_8 =>
      (cond (decide (j7_8 < (p1.length : Int))) (Option.bind (getI p1 j7_8) fun v14 => m_digest_Join_L6 F p1 n (IntKind.wrap .u64 ((bits .xor .u64
        j7_0 (IntKind.wrap .u64 (v14.toNat : Int))) * (1099511628211 : Int))) (IntKind.wrap .i64 (j7_8 + (1 : Int)))) (some j7_0))

def m_digest_Join (F : Nat) (p0 : Int) (p1 : (List UInt8)) : Option (Int) :=
  (Option.bind (m_digest_Join_L6 F p1 F p0 (0 : Int)) fun l7_0 => some l7_0)

def m_digest_Of (F : Nat) (p0 : T_api_State) : Option (Int) :=
  (Option.bind (m_state_Put F p0) fun v4 => (Option.bind (m_digest_Join F (14695981039346656037 : Int) v4) fun v5 => some v5))

def m_watch_Watch_State (F : Nat) (p0 : T_watch_Watch) (p1 : T_api_State) : Option (T_watch_Watch × Int) :=
  (Option.bind (m_watch_Watch_is F p0) fun v7 => (cond (!v7) (some (p0, (1 : Int))) (Option.bind (remI p1.Frame p0.rows) fun v16 => (cond (v16 != (0 :
    Int)) (some (p0, (0 : Int))) (Option.bind (m_digest_Of F p1) fun v22 => (Option.bind (m_watch_Watch_Own F p0 p1.Frame v22) fun (o23_0, v23) =>
    some (o23_0, v23)))))))

def m_hindcastref08_in (F : Nat) (p0 : Int) (p1 : Int) (p2 : Int) : Option (Bool) :=
  (Option.bind (cond (decide (p1 ≤ p0)) (some ((decide (p0 ≤ p2)))) (some (false))) fun v14 => some v14)

def m_hindcastref08_Player (F : Nat) (p0 : T_api_Player) : Option (Bool) :=
  (Option.bind (m_hindcastref08_in F p0.X (0 : Int) (61440 : Int)) fun v5 => (Option.bind (cond v5 ((Option.bind (m_hindcastref08_in F p0.Y (0 : Int)
    (28672 : Int)) fun v9 => some (v9))) (some (false))) fun v10 => (Option.bind (cond v10 ((Option.bind (m_hindcastref08_in F p0.VX (-1024 : Int)
    (1024 : Int)) fun v14 => some (v14))) (some (false))) fun v15 => (Option.bind (cond v15 ((Option.bind (m_hindcastref08_in F p0.VY (-1024 : Int)
    (1024 : Int)) fun v19 => some (v19))) (some (false))) fun v20 => (Option.bind (cond v20 (some ((decide ((1 : Int) ≤ p0.Health)))) (some (false)))
    fun v25 => (Option.bind (cond v25 (some ((decide (p0.Health ≤ (100 : Int))))) (some (false))) fun v30 => (Option.bind (cond v30 (some ((decide
    (p0.Cool ≤ (30 : Int))))) (some (false))) fun v35 => (Option.bind (cond v35 (some ((decide (p0.Face ≤ (3 : Int))))) (some (false))) fun v40 =>
    some v40))))))))

def m_hindcastref08_Shot (F : Nat) (p0 : T_api_Shot) : Option (Bool) :=
  (Option.bind (m_hindcastref08_in F p0.X (0 : Int) (65024 : Int)) fun v5 => (Option.bind (cond v5 ((Option.bind (m_hindcastref08_in F p0.Y (0 : Int)
    (32256 : Int)) fun v9 => some (v9))) (some (false))) fun v10 => (Option.bind (cond v10 ((Option.bind (m_hindcastref08_in F p0.VX (-2048 : Int)
    (2048 : Int)) fun v14 => some (v14))) (some (false))) fun v15 => (Option.bind (cond v15 ((Option.bind (m_hindcastref08_in F p0.VY (-2048 : Int)
    (2048 : Int)) fun v19 => some (v19))) (some (false))) fun v20 => (Option.bind (cond v20 (some ((decide (p0.Owner ≤ (1 : Int))))) (some (false)))
    fun v25 => (Option.bind (cond v25 (some ((decide ((1 : Int) ≤ p0.Life)))) (some (false))) fun v30 => (Option.bind (cond v30 (some ((decide
    (p0.Life ≤ (40 : Int))))) (some (false))) fun v35 => some v35)))))))

def m_hindcastref08_Check_L14 (F : Nat) (p0 : T_api_State) : Nat → Int → Option ((Int) ⊕ (Int))
  | 0, _ => none
  | n + 1, j15_3 =>
      (cond (decide (j15_3 < (p0.Shots.length : Int))) (Option.bind (getI p0.Shots j15_3) fun v32 => (Option.bind (m_hindcastref08_Shot F v32) fun v34
        => (cond (!v34) (some (.inr (4 : Int))) (m_hindcastref08_Check_L14 F p0 n (IntKind.wrap .i64 (j15_3 + (1 : Int))))))) (some (.inl (0 : Int))))

def m_hindcastref08_Check (F : Nat) (p0 : T_api_State) : Option (Int) :=
  (Option.bind (cond (decide ((8 : Int) < (p0.Shots.length : Int))) (some (true)) ((Option.bind (m_hindcastref08_Player F p0.Players.1) fun v12 =>
    some ((!v12))))) fun v14 => (Option.bind (cond v14 (some (true)) ((Option.bind (m_hindcastref08_Player F p0.Players.2) fun v19 => some ((!v19)))))
    fun v21 => (cond v21 (some (4 : Int)) (Option.bind (m_hindcastref08_Check_L14 F p0 F (0 : Int)) (orE (fun l15_2 => some (0 : Int)) (fun r15 =>
    some r15))))))

def m_hindcastref02_Number_L8 (F : Nat) (p1 : Int) : Nat → Int → (List Int) → Int → Option ((List Int))
  | 0, _, _, _ => none
  | n + 1, j9_0, j9_5, j9_6 =>
      (cond (decide (j9_6 < p1)) (Option.bind (appI j9_5 ([(IntKind.wrap .u8 (Int.tmod j9_0 256))] : List Int)) fun v17 => m_hindcastref02_Number_L8 F
        p1 n (IntKind.wrap .u64 (Int.tdiv j9_0 256)) v17 (IntKind.wrap .i64 (j9_6 + (1 : Int)))) (some j9_5))

def m_hindcastref02_Number (F : Nat) (p0 : Int) (p1 : Int) : Option ((List UInt8)) :=
  (Option.bind (m_hindcastref02_Number_L8 F p1 F p0 ([] : List Int) (0 : Int)) fun l9_5 => some (toB l9_5))

def m_hindcastref08_signed (F : Nat) (p0 : Int) : Option ((List UInt8)) :=
  (Option.bind (m_hindcastref02_Number F (IntKind.wrap .u64 (IntKind.wrap .u32 p0)) (4 : Int)) fun v6 => some v6)

def m_hindcastref02_Var_L6 (F : Nat) : Nat → Int → (List Int) → Option (Int × (List Int))
  | 0, _, _ => none
  | n + 1, j7_0, j7_3 =>
      (cond (decide ((128 : Int) ≤ j7_0)) (Option.bind (appI j7_3 ([(IntKind.wrap .u8 (IntKind.wrap .u64 ((Int.tmod j7_0 128) + (128 : Int))))] : List
        Int)) fun v12 => m_hindcastref02_Var_L6 F n (IntKind.wrap .u64 (Int.tdiv j7_0 128)) v12) (some (j7_0, j7_3)))

def m_hindcastref02_Var (F : Nat) (p0 : Int) : Option ((List UInt8)) :=
  (Option.bind (m_hindcastref02_Var_L6 F F p0 ([] : List Int)) fun (l7_0, l7_3) => (Option.bind (appI l7_3 ([(IntKind.wrap .u8 l7_0)] : List Int)) fun
    v19 => some (toB v19)))

def m_hindcastref08_Put_L16 (F : Nat) (p0 : T_api_State) : Nat → (List UInt8) → Int → Option ((List UInt8))
  | 0, _, _ => none
  | n + 1, j17_3, j17_4 =>
      (cond (decide (j17_4 < (2 : Int))) (cond (j17_4 == (0 : Int)) ((Option.bind (m_hindcastref08_signed F p0.Players.1.X) fun v29 => (Option.bind
        (appI j17_3 v29) fun v30 => (Option.bind (m_hindcastref08_signed F p0.Players.1.Y) fun v33 => (Option.bind (appI v30 v33) fun v34 =>
        (Option.bind (m_hindcastref08_signed F p0.Players.1.VX) fun v37 => (Option.bind (appI v34 v37) fun v38 => (Option.bind (m_hindcastref08_signed
        F p0.Players.1.VY) fun v41 => (Option.bind (appI v38 v41) fun v42 => (Option.bind (appI v42 (toB ([p0.Players.1.Health, p0.Players.1.Cool,
        p0.Players.1.Face] : List Int))) fun v51 => m_hindcastref08_Put_L16 F p0 n v51 (IntKind.wrap .i64 (j17_4 + (1 : Int))))))))))))) (cond (j17_4
        == (1 : Int)) ((Option.bind (m_hindcastref08_signed F p0.Players.2.X) fun v29 => (Option.bind (appI j17_3 v29) fun v30 => (Option.bind
        (m_hindcastref08_signed F p0.Players.2.Y) fun v33 => (Option.bind (appI v30 v33) fun v34 => (Option.bind (m_hindcastref08_signed F
        p0.Players.2.VX) fun v37 => (Option.bind (appI v34 v37) fun v38 => (Option.bind (m_hindcastref08_signed F p0.Players.2.VY) fun v41 =>
        (Option.bind (appI v38 v41) fun v42 => (Option.bind (appI v42 (toB ([p0.Players.2.Health, p0.Players.2.Cool, p0.Players.2.Face] : List Int)))
        fun v51 => m_hindcastref08_Put_L16 F p0 n v51 (IntKind.wrap .i64 (j17_4 + (1 : Int))))))))))))) none)) (some j17_3))

def m_hindcastref08_Put_L35 (F : Nat) (p0 : T_api_State) : Nat → (List UInt8) → Int → Option ((List UInt8))
  | 0, _, _ => none
  | n + 1, j36_3, j36_6 =>
      (cond (decide (j36_6 < (p0.Shots.length : Int))) (Option.bind (getI p0.Shots j36_6) fun v69 => (Option.bind (m_hindcastref08_signed F v69.X) fun
        v74 => (Option.bind (appI j36_3 v74) fun v75 => (Option.bind (m_hindcastref08_signed F v69.Y) fun v78 => (Option.bind (appI v75 v78) fun v79
        => (Option.bind (m_hindcastref08_signed F v69.VX) fun v82 => (Option.bind (appI v79 v82) fun v83 => (Option.bind (m_hindcastref08_signed F
        v69.VY) fun v86 => (Option.bind (appI v83 v86) fun v87 => (Option.bind (appI v87 (toB ([v69.Owner, v69.Life] : List Int))) fun v94 =>
        m_hindcastref08_Put_L35 F p0 n v94 (IntKind.wrap .i64 (j36_6 + (1 : Int))))))))))))) (some j36_3))

def m_hindcastref08_Put (F : Nat) (p0 : T_api_State) : Option ((List UInt8)) :=
  (Option.bind (m_hindcastref08_Check F p0) fun v9 => (cond (v9 != (0 : Int)) (some ([] : List UInt8)) (Option.bind (m_hindcastref02_Number F p0.Frame
    (8 : Int)) fun v13 => (Option.bind (m_hindcastref02_Number F p0.Seed (8 : Int)) fun v16 => (Option.bind (appI v13 v16) fun v17 => (Option.bind
    (m_hindcastref08_Put_L16 F p0 F v17 (0 : Int)) fun l17_3 => (Option.bind (m_hindcastref02_Var F (IntKind.wrap .u64 (p0.Shots.length : Int))) fun
    v57 => (Option.bind (appI l17_3 v57) fun v58 => (Option.bind (m_hindcastref08_Put_L35 F p0 F v58 (0 : Int)) fun l36_3 => (Option.bind
    (m_hindcastref02_Number F (IntKind.wrap .u64 p0.Score.1) (2 : Int)) fun v100 => (Option.bind (appI l36_3 v100) fun v101 => (Option.bind
    (m_hindcastref02_Number F (IntKind.wrap .u64 p0.Score.2) (2 : Int)) fun v106 => (Option.bind (appI v101 v106) fun v107 => some v107)))))))))))))

def m_hindcastref10_step (F : Nat) (p0 : Int) (p1 : Int) : Option (Int) :=
  some (IntKind.wrap .u64 ((bits .xor .u64 p0 (IntKind.wrap .u64 p1)) * (1099511628211 : Int)))

def m_hindcastref10_Join_L6 (F : Nat) (p1 : (List UInt8)) : Nat → Int → Int → Option (Int)
  | 0, _, _ => none
  | n + 1, j7_0, j7_5 =>
      (cond (decide (j7_5 < (p1.length : Int))) (Option.bind (getI p1 j7_5) fun v15 => (Option.bind (m_hindcastref10_step F j7_0 (v15.toNat : Int))
        fun v16 => m_hindcastref10_Join_L6 F p1 n v16 (IntKind.wrap .i64 (j7_5 + (1 : Int))))) (some j7_0))

def m_hindcastref10_Join (F : Nat) (p0 : Int) (p1 : (List UInt8)) : Option (Int) :=
  (Option.bind (m_hindcastref10_Join_L6 F p1 F p0 (0 : Int)) fun l7_0 => some l7_0)

def m_hindcastref10_Of (F : Nat) (p0 : T_api_State) : Option (Int) :=
  (Option.bind (m_hindcastref08_Put F p0) fun v4 => (Option.bind (m_hindcastref10_Join F (14695981039346656037 : Int) v4) fun v5 => some v5))

def m_hindcastref29_Watch_State (F : Nat) (p0 : T_hindcastref29_Watch) (p1 : T_api_State) : Option (T_hindcastref29_Watch × Int) :=
  (Option.bind (remI p1.Frame p0.Rows) fun v11 => (cond (v11 != (0 : Int)) (some (p0, (0 : Int))) (Option.bind (m_hindcastref10_Of F p1) fun v17 =>
    (Option.bind (m_hindcastref29_Watch_Told F p0 (0 : Int) p1.Frame v17) fun (o18_0, v18) => some (o18_0, v18)))))

def m_hindcastlaw29_one (F : Nat) (p0 : T_watch_Watch) (p1 : T_hindcastref29_Watch) (p2 : T_hindcastlaw29_Act) : Option (T_watch_Watch × T_hindcastref29_Watch × Bool) :=
  (cond ((Int.tmod p2.What 3) == (0 : Int)) (Option.bind (m_watch_Watch_Own F p0 p2.F p2.Sum) fun (o17_0, v17) => (Option.bind
    (m_hindcastref29_Watch_Told F p1 (0 : Int) p2.F p2.Sum) fun (o23_0, v23) => some (o17_0, o23_0, (v17 == v23)))) (cond ((Int.tmod p2.What 3) == (1
    : Int)) (Option.bind (m_watch_Watch_Other F p0 p2.F p2.Sum) fun (o32_0, v32) => (Option.bind (m_hindcastref29_Watch_Told F p1 (1 : Int) p2.F
    p2.Sum) fun (o38_0, v38) => some (o32_0, o38_0, (v32 == v38)))) (Option.bind (m_watch_Watch_State F p0 p2.S) fun (o43_0, v43) => (Option.bind
    (m_hindcastref29_Watch_State F p1 p2.S) fun (o47_0, v47) => some (o43_0, o47_0, (v43 == v47))))))

def m_watch_Watch_Latest_L14 (F : Nat) (p0 : T_watch_Watch) : Nat → Int → Int → Bool → Int → Option (Int × Int × Bool)
  | 0, _, _, _, _ => none
  | n + 1, j15_2, j15_3, j15_4, j15_15 =>
      (cond (decide (j15_15 < (p0.l.length : Int))) (Option.bind (getI p0.l j15_15) fun v17 => (cond v17.own.is_ (m_watch_Watch_Latest_L14 F p0 n
        v17.f v17.own.n true (IntKind.wrap .i64 (j15_15 + (1 : Int)))) (m_watch_Watch_Latest_L14 F p0 n j15_2 j15_3 j15_4 (IntKind.wrap .i64 (j15_15 +
        (1 : Int)))))) (some (j15_2, j15_3, j15_4)))

def m_watch_Watch_Latest (F : Nat) (p0 : T_watch_Watch) : Option (Int × Int × Bool) :=
  (Option.bind (m_watch_Watch_is F p0) fun v8 => (cond (!v8) (some ((0 : Int), (0 : Int), false)) (Option.bind (m_watch_Watch_Latest_L14 F p0 F (0 :
    Int) (0 : Int) false (0 : Int)) fun (l15_2, l15_3, l15_4) => some (l15_2, l15_3, l15_4))))

def m_hindcastref29_Watch_Latest_L8 (F : Nat) (p0 : T_hindcastref29_Watch) : Nat → Int → Int → Bool → Int → Option (Int × Int × Bool)
  | 0, _, _, _, _ => none
  | n + 1, j9_5, j9_6, j9_7, j9_8 =>
      (cond (decide (j9_8 < (p0.L.length : Int))) (Option.bind (getI p0.L j9_8) fun v24 => (Option.bind (cond v24.Is.1 ((Option.bind (cond (!j9_7)
        (some (true)) (some ((decide (j9_5 < v24.F))))) fun v37 => some (v37))) (some (false))) fun v38 => (cond v38 (m_hindcastref29_Watch_Latest_L8
        F p0 n v24.F v24.Sum.1 true (IntKind.wrap .i64 (j9_8 + (1 : Int)))) (m_hindcastref29_Watch_Latest_L8 F p0 n j9_5 j9_6 j9_7 (IntKind.wrap .i64
        (j9_8 + (1 : Int))))))) (some (j9_5, j9_6, j9_7)))

def m_hindcastref29_Watch_Latest (F : Nat) (p0 : T_hindcastref29_Watch) : Option (Int × Int × Bool) :=
  (Option.bind (m_hindcastref29_Watch_Latest_L8 F p0 F (0 : Int) (0 : Int) false (0 : Int)) fun (l9_5, l9_6, l9_7) => some (l9_5, l9_6, l9_7))

def m_hindcastref29_Watch_Agreed_L8 (F : Nat) (p0 : T_hindcastref29_Watch) : Nat → Int → Bool → Int → Option (Int × Bool)
  | 0, _, _, _ => none
  | n + 1, j9_4, j9_5, j9_6 =>
      (cond (decide (j9_6 < (p0.L.length : Int))) (Option.bind (getI p0.L j9_6) fun v22 => (Option.bind (cond v22.Is.1 (some (v22.Is.2)) (some
        (false))) fun v31 => (Option.bind (cond v31 (some ((v22.Sum.1 == v22.Sum.2))) (some (false))) fun v40 => (Option.bind (cond v40 ((Option.bind
        (cond (!j9_5) (some (true)) (some ((decide (j9_4 < v22.F))))) fun v49 => some (v49))) (some (false))) fun v50 => (cond v50
        (m_hindcastref29_Watch_Agreed_L8 F p0 n v22.F true (IntKind.wrap .i64 (j9_6 + (1 : Int)))) (m_hindcastref29_Watch_Agreed_L8 F p0 n j9_4 j9_5
        (IntKind.wrap .i64 (j9_6 + (1 : Int))))))))) (some (j9_4, j9_5)))

def m_hindcastref29_Watch_Agreed (F : Nat) (p0 : T_hindcastref29_Watch) : Option (Int × Bool) :=
  (Option.bind (m_hindcastref29_Watch_Agreed_L8 F p0 F (0 : Int) false (0 : Int)) fun (l9_4, l9_5) => some (l9_4, l9_5))

def m_hindcastlaw29_WatchPlays_L34 (F : Nat) (p1 : (List T_hindcastlaw29_Act)) : Nat → Int → Int → (List T_watch_entry) → Bool → Int → (List T_hindcastref29_Entry) → Bool → Option ((Bool × Int × (List T_watch_entry) × Bool × Int × (List T_hindcastref29_Entry) × Bool) ⊕ (Bool))
  | 0, _, _, _, _, _, _, _ => none
  | n + 1, j35_7, j35_n19_0_f0, j35_n19_0_f1, j35_n19_0_f2, j35_n37_f0, j35_n37_f1, j35_n37_f2 =>
      (cond (decide (j35_7 < (p1.length : Int))) (Option.bind (getI p1 j35_7) fun v48 => (Option.bind (m_hindcastlaw29_one F (T_watch_Watch.mk
        j35_n19_0_f0 j35_n19_0_f1 j35_n19_0_f2) (T_hindcastref29_Watch.mk j35_n37_f0 j35_n37_f1 j35_n37_f2) v48) fun (o50_0, o50_1, v50) =>
        (Option.bind (cond (!v50) (some (true)) ((Option.bind (m_watch_Watch_Clashed F o50_0) fun v54 => some ((v54 != o50_1.Clashed))))) fun v60 =>
        (cond v60 (some (.inr false)) (Option.bind (m_watch_Watch_Latest F o50_0) fun (v63_0, v63_1, v63_2) => (Option.bind
        (m_hindcastref29_Watch_Latest F o50_1) fun (v69_0, v69_1, v69_2) => (Option.bind (m_watch_Watch_Agreed F o50_0) fun (v75_0, v75_1) =>
        (Option.bind (m_hindcastref29_Watch_Agreed F o50_1) fun (v80_0, v80_1) => (Option.bind (cond (v63_0 != v69_0) (some (true)) (some ((v63_1 !=
        v69_1)))) fun v90 => (Option.bind (cond v90 (some (true)) (some ((v63_2 != v69_2)))) fun v95 => (Option.bind (cond v95 (some (true)) (some
        ((v75_0 != v80_0)))) fun v100 => (Option.bind (cond v100 (some (true)) (some ((v75_1 != v80_1)))) fun v105 => (cond v105 (some (.inr false))
        (m_hindcastlaw29_WatchPlays_L34 F p1 n (IntKind.wrap .i64 (j35_7 + (1 : Int))) o50_0.rows o50_0.l o50_0.clashed o50_1.Rows o50_1.L
        o50_1.Clashed)))))))))))))) (some (.inl (false, j35_n19_0_f0, j35_n19_0_f1, j35_n19_0_f2, j35_n37_f0, j35_n37_f1, j35_n37_f2))))

def m_hindcastlaw29_WatchPlays (F : Nat) (p0 : Int) (p1 : (List T_hindcastlaw29_Act)) : Option (Bool) :=
  (Option.bind (m_watch_New F p0) fun v19 => poE ((Option.bind (m_hindcastref29_May F p0) fun v21 => (cond (!v21) (Option.bind (m_hindcastlaw29_awake
    F) fun v26 => some v26) (some false)))) (fun v19s => (Option.bind (m_hindcastref29_May F p0) fun v21 => (cond (!v21) (some false) (Option.bind
    (m_hindcastlaw29_few F p1) fun v31 => (cond (!v31) (Option.bind (m_hindcastlaw29_awake F) fun v33 => some v33) (Option.bind
    (m_hindcastlaw29_WatchPlays_L34 F p1 F (0 : Int) v19s.rows v19s.l v19s.clashed (IntKind.wrap .u64 p0) ([] : List T_hindcastref29_Entry) false)
    (orE (fun (l35_4, l35_n19_0_f0, l35_n19_0_f1, l35_n19_0_f2, l35_n37_f0, l35_n37_f1, l35_n37_f2) => (Option.bind (m_hindcastlaw29_awake F) fun v106
    => some v106)) (fun r35 => some r35)))))))) v19)

end Go.Proofs.YthlnellnlhkphaaDoor
