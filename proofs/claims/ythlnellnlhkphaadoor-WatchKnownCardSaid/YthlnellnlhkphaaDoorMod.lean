/-
  Models of the functions of the chapter: what each computes, as a Lean function (none: it is not said). Printed by a program of this claim's own.
-/
import Derived.Test.YthlnellnlhkphaaDoorEng5
namespace Go.Proofs.YthlnellnlhkphaaDoor
open Go.Proofs.YthlnellnlhkphaaDoor.Eng
set_option linter.unusedVariables false
set_option linter.unusedSimpArgs false

structure T_watch_sum where
  n : Int
  is_ : Bool
theorem T_watch_sum.eta (x : T_watch_sum) : T_watch_sum.mk x.n x.is_ = x := rfl

def c_T_watch_sum (x : T_watch_sum) : List Value := [.int .u64 x.n, .bool x.is_]
theorem c_T_watch_sum_len (x : T_watch_sum) : (c_T_watch_sum x).length = 2 := rfl

structure T_watch_entry where
  f : Int
  own : T_watch_sum
  other : T_watch_sum
theorem T_watch_entry.eta (x : T_watch_entry) : T_watch_entry.mk x.f x.own x.other = x := rfl

def c_T_watch_entry (x : T_watch_entry) : List Value := [.int .u64 x.f, .int .u64 x.own.n, .bool x.own.is_, .int .u64 x.other.n, .bool x.other.is_]
theorem c_T_watch_entry_len (x : T_watch_entry) : (c_T_watch_entry x).length = 5 := rfl

structure T_watch_Watch where
  rows : Int
  l : (List T_watch_entry)
  clashed : Bool
theorem T_watch_Watch.eta (x : T_watch_Watch) : T_watch_Watch.mk x.rows x.l x.clashed = x := rfl

structure T_api_Shot where
  X : Int
  Y : Int
  VX : Int
  VY : Int
  Owner : Int
  Life : Int
theorem T_api_Shot.eta (x : T_api_Shot) : T_api_Shot.mk x.X x.Y x.VX x.VY x.Owner x.Life = x := rfl

def c_T_api_Shot (x : T_api_Shot) : List Value := [.int .i32 x.X, .int .i32 x.Y, .int .i32 x.VX, .int .i32 x.VY, .int .u8 x.Owner, .int .u8 x.Life]
theorem c_T_api_Shot_len (x : T_api_Shot) : (c_T_api_Shot x).length = 6 := rfl

structure T_api_Player where
  X : Int
  Y : Int
  VX : Int
  VY : Int
  Health : Int
  Cool : Int
  Face : Int
theorem T_api_Player.eta (x : T_api_Player) : T_api_Player.mk x.X x.Y x.VX x.VY x.Health x.Cool x.Face = x := rfl

def c_T_api_Player (x : T_api_Player) : List Value := [.int .i32 x.X, .int .i32 x.Y, .int .i32 x.VX, .int .i32 x.VY, .int .u8 x.Health, .int .u8 x.Cool, .int .u8 x.Face]
theorem c_T_api_Player_len (x : T_api_Player) : (c_T_api_Player x).length = 7 := rfl

structure T_api_State where
  Frame : Int
  Seed : Int
  Players : (T_api_Player × T_api_Player)
  Shots : (List T_api_Shot)
  Score : (Int × Int)
theorem T_api_State.eta (x : T_api_State) : T_api_State.mk x.Frame x.Seed x.Players x.Shots x.Score = x := rfl

def gl_state_playerBounds : List Value := [.int .i32 (0 : Int), .int .i32 (61440 : Int), .int .i32 (0 : Int), .int .i32 (28672 : Int), .int .i32 ((-1024) : Int), .int .i32 (1024 : Int), .int .i32 ((-1024) : Int), .int .i32 (1024 : Int), .int .i32 (1 : Int), .int .i32 (100 : Int), .int .i32 (0 : Int), .int .i32 (30 : Int), .int .i32 (0 : Int), .int .i32 (3 : Int)]

def gl_state_shotBounds : List Value := [.int .i32 (0 : Int), .int .i32 (65024 : Int), .int .i32 (0 : Int), .int .i32 (32256 : Int), .int .i32 ((-2048) : Int), .int .i32 (2048 : Int), .int .i32 ((-2048) : Int), .int .i32 (2048 : Int), .int .i32 (0 : Int), .int .i32 (1 : Int), .int .i32 (1 : Int), .int .i32 (40 : Int)]

structure T_codec_Writer where
  b : (List Int)
theorem T_codec_Writer.eta (x : T_codec_Writer) : T_codec_Writer.mk x.b = x := rfl

def m_watch_New (F : Nat) (p0 : Int) : Option ((Option T_watch_Watch)) :=
  (Option.bind (cond (decide (p0 < (1 : Int))) (some (true)) (some ((decide ((256 : Int) < p0))))) fun v8 => (cond v8 (some none) (some (some
    (T_watch_Watch.mk (IntKind.wrap .u64 p0) ([] : List T_watch_entry) false)))))

def m_watch_Watch_is_nil0 (F : Nat) : Option (Bool) :=
  some false

def m_watch_Watch_told_nil0_f3_watch_ownSide (F : Nat) (p1 : Int) (p2 : Int) : Option (Int) :=
  (Option.bind (m_watch_Watch_is_nil0 F) fun v13 => (cond (!v13) (some (1 : Int)) none))

def m_watch_Watch_Own_nil0 (F : Nat) (p1 : Int) (p2 : Int) : Option (Int) :=
  (Option.bind (m_watch_Watch_told_nil0_f3_watch_ownSide F p1 p2) fun v10 => some v10)

def m_watch_Watch_told_nil0_f3_watch_otherSide (F : Nat) (p1 : Int) (p2 : Int) : Option (Int) :=
  (Option.bind (m_watch_Watch_is_nil0 F) fun v13 => (cond (!v13) (some (1 : Int)) none))

def m_watch_Watch_Other_nil0 (F : Nat) (p1 : Int) (p2 : Int) : Option (Int) :=
  (Option.bind (m_watch_Watch_told_nil0_f3_watch_otherSide F p1 p2) fun v10 => some v10)

def m_watch_Watch_is (F : Nat) (p0 : T_watch_Watch) : Option (Bool) :=
  some (decide ((0 : Int) < p0.rows))

def m_cmp_isNaN_uint64 (F : Nat) (p0 : Int) : Option (Bool) :=
  some (p0 != p0)

def m_cmp_Compare_uint64 (F : Nat) (p0 : Int) (p1 : Int) : Option (Int) :=
  (Option.bind (m_cmp_isNaN_uint64 F p0) fun v8 => (Option.bind (m_cmp_isNaN_uint64 F p1) fun v10 => (cond v8 (cond v10 (some (0 : Int)) (some (-1 :
    Int))) (cond v10 (some (1 : Int)) (cond (decide (p0 < p1)) (some (-1 : Int)) (cond (decide (p1 < p0)) (some (1 : Int)) (some (0 : Int))))))))

def m_watch_Watch_at_1 (F : Nat) (p0 : T_watch_entry) (p1 : Int) : Option (Int) :=
  (Option.bind (m_cmp_Compare_uint64 F p0.f p1) fun v8 => some v8)

def m_slices_BinarySearchFunc___watch_entry_watch_entry_uint64_f2_watch_Watch_at_1_L8 (F : Nat) (p0 : (List T_watch_entry)) (p1 : Int) : Nat → Int → Int → Option (Int)
  | 0, _, _ => none
  | n + 1, j9_9, j9_10 =>
      (cond (decide (j9_9 < j9_10)) (Option.bind (getI p0 (IntKind.wrap .i64 ((IntKind.wrap .u64 (IntKind.wrap .i64 (j9_9 + j9_10))) / 2 ^ (min 1
        (IntKind.bits .u64))))) fun v27 => (Option.bind (m_watch_Watch_at_1 F v27 p1) fun v30 => (cond (decide (v30 < (0 : Int)))
        (m_slices_BinarySearchFunc___watch_entry_watch_entry_uint64_f2_watch_Watch_at_1_L8 F p0 p1 n (IntKind.wrap .i64 ((IntKind.wrap .i64
        ((IntKind.wrap .u64 (IntKind.wrap .i64 (j9_9 + j9_10))) / 2 ^ (min 1 (IntKind.bits .u64)))) + (1 : Int))) j9_10)
        (m_slices_BinarySearchFunc___watch_entry_watch_entry_uint64_f2_watch_Watch_at_1_L8 F p0 p1 n j9_9 (IntKind.wrap .i64 ((IntKind.wrap .u64
        (IntKind.wrap .i64 (j9_9 + j9_10))) / 2 ^ (min 1 (IntKind.bits .u64)))))))) (some j9_9))

def m_slices_BinarySearchFunc___watch_entry_watch_entry_uint64_f2_watch_Watch_at_1 (F : Nat) (p0 : (List T_watch_entry)) (p1 : Int) : Option (Int × Bool) :=
  (Option.bind (m_slices_BinarySearchFunc___watch_entry_watch_entry_uint64_f2_watch_Watch_at_1_L8 F p0 p1 F (0 : Int) (p0.length : Int)) fun l9_9 =>
    (Option.bind (cond (decide (l9_9 < (p0.length : Int))) ((Option.bind (getI p0 l9_9) fun v43 => (Option.bind (m_watch_Watch_at_1 F v43 p1) fun v46
    => some ((v46 == (0 : Int)))))) (some (false))) fun v48 => some (l9_9, v48)))

def m_watch_Watch_told_f3_watch_ownSide (F : Nat) (p0 : T_watch_Watch) (p1 : Int) (p2 : Int) : Option (T_watch_Watch × Int) :=
  (Option.bind (m_watch_Watch_is F p0) fun v13 => (cond (!v13) (some (p0, (1 : Int))) (Option.bind (remI p1 p0.rows) fun v21 => (cond (v21 != (0 :
    Int)) (some (p0, (2 : Int))) (Option.bind (m_slices_BinarySearchFunc___watch_entry_watch_entry_uint64_f2_watch_Watch_at_1 F p0.l p1) fun
    (v100013_0, v100013_1) => (cond v100013_1 (Option.bind (getI p0.l v100013_0) fun v100067 => (Option.bind (cond p0.clashed (some (true))
    ((Option.bind (cond v100067.own.is_ (some ((v100067.own.n != p2))) (some (false))) fun v48 => some (v48)))) fun v49 => (cond (!v100067.own.is_)
    (Option.bind (cond v49 (some (true)) ((Option.bind (cond v100067.other.is_ (some ((p2 != v100067.other.n))) (some (false))) fun v91 => some
    (v91)))) fun v92 => (cond v92 (some ((T_watch_Watch.mk p0.rows (setI p0.l v100013_0 (T_watch_entry.mk v100067.f (T_watch_sum.mk p2 true)
    v100067.other)) v92), (14 : Int))) (some ((T_watch_Watch.mk p0.rows (setI p0.l v100013_0 (T_watch_entry.mk v100067.f (T_watch_sum.mk p2 true)
    v100067.other)) v92), (0 : Int))))) (Option.bind (cond v49 (some (true)) ((Option.bind (cond v100067.own.is_ (some (v100067.other.is_)) (some
    (false))) fun v78 => (Option.bind (cond v78 (some ((v100067.own.n != v100067.other.n))) (some (false))) fun v91 => some (v91))))) fun v92 => (cond
    v92 (some ((T_watch_Watch.mk p0.rows p0.l v92), (14 : Int))) (some ((T_watch_Watch.mk p0.rows p0.l v92), (0 : Int)))))))) (cond (decide
    ((p0.l.length : Int) < (8 : Int))) (Option.bind (insM F p0.l v100013_0 ([(T_watch_entry.mk p1 (T_watch_sum.mk (0 : Int) false) (T_watch_sum.mk (0
    : Int) false))] : List T_watch_entry)) fun v100056 => (Option.bind (getI v100056 v100013_0) fun v100067 => (Option.bind (cond p0.clashed (some
    (true)) ((Option.bind (cond v100067.own.is_ (some ((v100067.own.n != p2))) (some (false))) fun v48 => some (v48)))) fun v49 => (cond
    (!v100067.own.is_) (Option.bind (cond v49 (some (true)) ((Option.bind (cond v100067.other.is_ (some ((p2 != v100067.other.n))) (some (false))) fun
    v91 => some (v91)))) fun v92 => (cond v92 (some ((T_watch_Watch.mk p0.rows (setI v100056 v100013_0 (T_watch_entry.mk v100067.f (T_watch_sum.mk p2
    true) v100067.other)) v92), (14 : Int))) (some ((T_watch_Watch.mk p0.rows (setI v100056 v100013_0 (T_watch_entry.mk v100067.f (T_watch_sum.mk p2
    true) v100067.other)) v92), (0 : Int))))) (Option.bind (cond v49 (some (true)) ((Option.bind (cond v100067.own.is_ (some (v100067.other.is_))
    (some (false))) fun v78 => (Option.bind (cond v78 (some ((v100067.own.n != v100067.other.n))) (some (false))) fun v91 => some (v91))))) fun v92 =>
    (cond v92 (some ((T_watch_Watch.mk p0.rows v100056 v92), (14 : Int))) (some ((T_watch_Watch.mk p0.rows v100056 v92), (0 : Int))))))))) (cond
    (v100013_0 == (0 : Int)) (cond p0.clashed (some (p0, (14 : Int))) (some (p0, (0 : Int)))) (Option.bind (insM F p0.l v100013_0 ([(T_watch_entry.mk
    p1 (T_watch_sum.mk (0 : Int) false) (T_watch_sum.mk (0 : Int) false))] : List T_watch_entry)) fun v100025 => (Option.bind (delM F v100025 (0 :
    Int) (1 : Int)) fun v100033 => (Option.bind (getI v100033 (IntKind.wrap .i64 (v100013_0 - (1 : Int)))) fun v100067 => (Option.bind (cond
    p0.clashed (some (true)) ((Option.bind (cond v100067.own.is_ (some ((v100067.own.n != p2))) (some (false))) fun v48 => some (v48)))) fun v49 =>
    (cond (!v100067.own.is_) (Option.bind (cond v49 (some (true)) ((Option.bind (cond v100067.other.is_ (some ((p2 != v100067.other.n))) (some
    (false))) fun v91 => some (v91)))) fun v92 => (cond v92 (some ((T_watch_Watch.mk p0.rows (setI v100033 (IntKind.wrap .i64 (v100013_0 - (1 : Int)))
    (T_watch_entry.mk v100067.f (T_watch_sum.mk p2 true) v100067.other)) v92), (14 : Int))) (some ((T_watch_Watch.mk p0.rows (setI v100033
    (IntKind.wrap .i64 (v100013_0 - (1 : Int))) (T_watch_entry.mk v100067.f (T_watch_sum.mk p2 true) v100067.other)) v92), (0 : Int))))) (Option.bind
    (cond v49 (some (true)) ((Option.bind (cond v100067.own.is_ (some (v100067.other.is_)) (some (false))) fun v78 => (Option.bind (cond v78 (some
    ((v100067.own.n != v100067.other.n))) (some (false))) fun v91 => some (v91))))) fun v92 => (cond v92 (some ((T_watch_Watch.mk p0.rows v100033
    v92), (14 : Int))) (some ((T_watch_Watch.mk p0.rows v100033 v92), (0 : Int))))))))))))))))))

def m_watch_Watch_Own (F : Nat) (p0 : T_watch_Watch) (p1 : Int) (p2 : Int) : Option (T_watch_Watch × Int) :=
  (Option.bind (m_watch_Watch_told_f3_watch_ownSide F p0 p1 p2) fun (o10_0, v10) => some (o10_0, v10))

def m_watch_Watch_told_f3_watch_otherSide (F : Nat) (p0 : T_watch_Watch) (p1 : Int) (p2 : Int) : Option (T_watch_Watch × Int) :=
  (Option.bind (m_watch_Watch_is F p0) fun v13 => (cond (!v13) (some (p0, (1 : Int))) (Option.bind (remI p1 p0.rows) fun v21 => (cond (v21 != (0 :
    Int)) (some (p0, (2 : Int))) (Option.bind (m_slices_BinarySearchFunc___watch_entry_watch_entry_uint64_f2_watch_Watch_at_1 F p0.l p1) fun
    (v100013_0, v100013_1) => (cond v100013_1 (Option.bind (getI p0.l v100013_0) fun v100067 => (Option.bind (cond p0.clashed (some (true))
    ((Option.bind (cond v100067.other.is_ (some ((v100067.other.n != p2))) (some (false))) fun v48 => some (v48)))) fun v49 => (cond
    (!v100067.other.is_) (Option.bind (cond v49 (some (true)) ((Option.bind (cond v100067.own.is_ (some (true)) (some (false))) fun v78 =>
    (Option.bind (cond v78 (some ((v100067.own.n != p2))) (some (false))) fun v91 => some (v91))))) fun v92 => (cond v92 (some ((T_watch_Watch.mk
    p0.rows (setI p0.l v100013_0 (T_watch_entry.mk v100067.f v100067.own (T_watch_sum.mk p2 true))) v92), (14 : Int))) (some ((T_watch_Watch.mk
    p0.rows (setI p0.l v100013_0 (T_watch_entry.mk v100067.f v100067.own (T_watch_sum.mk p2 true))) v92), (0 : Int))))) (Option.bind (cond v49 (some
    (true)) ((Option.bind (cond v100067.own.is_ (some (v100067.other.is_)) (some (false))) fun v78 => (Option.bind (cond v78 (some ((v100067.own.n !=
    v100067.other.n))) (some (false))) fun v91 => some (v91))))) fun v92 => (cond v92 (some ((T_watch_Watch.mk p0.rows p0.l v92), (14 : Int))) (some
    ((T_watch_Watch.mk p0.rows p0.l v92), (0 : Int)))))))) (cond (decide ((p0.l.length : Int) < (8 : Int))) (Option.bind (insM F p0.l v100013_0
    ([(T_watch_entry.mk p1 (T_watch_sum.mk (0 : Int) false) (T_watch_sum.mk (0 : Int) false))] : List T_watch_entry)) fun v100056 => (Option.bind
    (getI v100056 v100013_0) fun v100067 => (Option.bind (cond p0.clashed (some (true)) ((Option.bind (cond v100067.other.is_ (some ((v100067.other.n
    != p2))) (some (false))) fun v48 => some (v48)))) fun v49 => (cond (!v100067.other.is_) (Option.bind (cond v49 (some (true)) ((Option.bind (cond
    v100067.own.is_ (some (true)) (some (false))) fun v78 => (Option.bind (cond v78 (some ((v100067.own.n != p2))) (some (false))) fun v91 => some
    (v91))))) fun v92 => (cond v92 (some ((T_watch_Watch.mk p0.rows (setI v100056 v100013_0 (T_watch_entry.mk v100067.f v100067.own (T_watch_sum.mk p2
    true))) v92), (14 : Int))) (some ((T_watch_Watch.mk p0.rows (setI v100056 v100013_0 (T_watch_entry.mk v100067.f v100067.own (T_watch_sum.mk p2
    true))) v92), (0 : Int))))) (Option.bind (cond v49 (some (true)) ((Option.bind (cond v100067.own.is_ (some (v100067.other.is_)) (some (false)))
    fun v78 => (Option.bind (cond v78 (some ((v100067.own.n != v100067.other.n))) (some (false))) fun v91 => some (v91))))) fun v92 => (cond v92 (some
    ((T_watch_Watch.mk p0.rows v100056 v92), (14 : Int))) (some ((T_watch_Watch.mk p0.rows v100056 v92), (0 : Int))))))))) (cond (v100013_0 == (0 :
    Int)) (cond p0.clashed (some (p0, (14 : Int))) (some (p0, (0 : Int)))) (Option.bind (insM F p0.l v100013_0 ([(T_watch_entry.mk p1 (T_watch_sum.mk
    (0 : Int) false) (T_watch_sum.mk (0 : Int) false))] : List T_watch_entry)) fun v100025 => (Option.bind (delM F v100025 (0 : Int) (1 : Int)) fun
    v100033 => (Option.bind (getI v100033 (IntKind.wrap .i64 (v100013_0 - (1 : Int)))) fun v100067 => (Option.bind (cond p0.clashed (some (true))
    ((Option.bind (cond v100067.other.is_ (some ((v100067.other.n != p2))) (some (false))) fun v48 => some (v48)))) fun v49 => (cond
    (!v100067.other.is_) (Option.bind (cond v49 (some (true)) ((Option.bind (cond v100067.own.is_ (some (true)) (some (false))) fun v78 =>
    (Option.bind (cond v78 (some ((v100067.own.n != p2))) (some (false))) fun v91 => some (v91))))) fun v92 => (cond v92 (some ((T_watch_Watch.mk
    p0.rows (setI v100033 (IntKind.wrap .i64 (v100013_0 - (1 : Int))) (T_watch_entry.mk v100067.f v100067.own (T_watch_sum.mk p2 true))) v92), (14 :
    Int))) (some ((T_watch_Watch.mk p0.rows (setI v100033 (IntKind.wrap .i64 (v100013_0 - (1 : Int))) (T_watch_entry.mk v100067.f v100067.own
    (T_watch_sum.mk p2 true))) v92), (0 : Int))))) (Option.bind (cond v49 (some (true)) ((Option.bind (cond v100067.own.is_ (some (v100067.other.is_))
    (some (false))) fun v78 => (Option.bind (cond v78 (some ((v100067.own.n != v100067.other.n))) (some (false))) fun v91 => some (v91))))) fun v92 =>
    (cond v92 (some ((T_watch_Watch.mk p0.rows v100033 v92), (14 : Int))) (some ((T_watch_Watch.mk p0.rows v100033 v92), (0 : Int))))))))))))))))))

def m_watch_Watch_Other (F : Nat) (p0 : T_watch_Watch) (p1 : Int) (p2 : Int) : Option (T_watch_Watch × Int) :=
  (Option.bind (m_watch_Watch_told_f3_watch_otherSide F p0 p1 p2) fun (o10_0, v10) => some (o10_0, v10))

def m_watch_Watch_Latest_L14 (F : Nat) (p0 : T_watch_Watch) : Nat → Int → Int → Bool → Int → Option (Int × Int × Bool)
  | 0, _, _, _, _ => none
  | n + 1, j15_2, j15_3, j15_4, j15_15 =>
      (cond (decide (j15_15 < (p0.l.length : Int))) (Option.bind (getI p0.l j15_15) fun v17 => (cond v17.own.is_ (m_watch_Watch_Latest_L14 F p0 n
        v17.f v17.own.n true (IntKind.wrap .i64 (j15_15 + (1 : Int)))) (m_watch_Watch_Latest_L14 F p0 n j15_2 j15_3 j15_4 (IntKind.wrap .i64 (j15_15 +
        (1 : Int)))))) (some (j15_2, j15_3, j15_4)))

def m_watch_Watch_Latest (F : Nat) (p0 : T_watch_Watch) : Option (Int × Int × Bool) :=
  (Option.bind (m_watch_Watch_is F p0) fun v8 => (cond (!v8) (some ((0 : Int), (0 : Int), false)) (Option.bind (m_watch_Watch_Latest_L14 F p0 F (0 :
    Int) (0 : Int) false (0 : Int)) fun (l15_2, l15_3, l15_4) => some (l15_2, l15_3, l15_4))))

def m_watch_Watch_Clashed (F : Nat) (p0 : T_watch_Watch) : Option (Bool) :=
  (Option.bind (m_watch_Watch_is F p0) fun v4 => (Option.bind (cond v4 (some (p0.clashed)) (some (false))) fun v10 => some v10))

def m_watch_Watch_Agreed_nil0 (F : Nat) : Option (Int × Bool) :=
  (Option.bind (m_watch_Watch_is_nil0 F) fun v7 => (cond (!v7) (some ((0 : Int), false)) none))

def m_watch_Watch_Clashed_nil0 (F : Nat) : Option (Bool) :=
  (Option.bind (m_watch_Watch_is_nil0 F) fun v4 => (Option.bind (cond v4 (none) (some (false))) fun v10 => some v10))

def m_state_Start_L8 (F : Nat) : Nat → Int → (T_api_Player × T_api_Player) → Option ((T_api_Player × T_api_Player))
  | 0, _, _ => none
  | n + 1, j9_7, j9_n3_f2 =>
      (cond (decide (j9_7 < (2 : Int))) (cond (j9_7 == (0 : Int)) (m_state_Start_L8 F n (IntKind.wrap .i64 (j9_7 + (1 : Int))) ((T_api_Player.mk
        (IntKind.wrap .i32 ((8192 : Int) + (IntKind.wrap .i32 ((IntKind.wrap .i32 j9_7) * (45056 : Int))))) (14336 : Int) (0 : Int) (0 : Int) (100 :
        Int) (0 : Int) (IntKind.wrap .u8 j9_7)), j9_n3_f2.2)) (cond (j9_7 == (1 : Int)) (m_state_Start_L8 F n (IntKind.wrap .i64 (j9_7 + (1 : Int)))
        (j9_n3_f2.1, (T_api_Player.mk (IntKind.wrap .i32 ((8192 : Int) + (IntKind.wrap .i32 ((IntKind.wrap .i32 j9_7) * (45056 : Int))))) (14336 :
        Int) (0 : Int) (0 : Int) (100 : Int) (0 : Int) (IntKind.wrap .u8 j9_7)))) none)) (some j9_n3_f2))

def m_state_Start (F : Nat) (p0 : Int) : Option (T_api_State) :=
  (Option.bind (m_state_Start_L8 F F (0 : Int) ((T_api_Player.mk (0 : Int) (0 : Int) (0 : Int) (0 : Int) (0 : Int) (0 : Int) (0 : Int)),
    (T_api_Player.mk (0 : Int) (0 : Int) (0 : Int) (0 : Int) (0 : Int) (0 : Int) (0 : Int)))) fun l9_n3_f2 => some (T_api_State.mk (0 : Int) p0
    l9_n3_f2 ([] : List T_api_Shot) ((0 : Int), (0 : Int))))

def m_watch_Watch_State_nil0 (F : Nat) (p1 : T_api_State) : Option (Int) :=
  (Option.bind (m_watch_Watch_is_nil0 F) fun v7 => (cond (!v7) (some (1 : Int)) none))

def m_state_ofPlayer (F : Nat) (p0 : T_api_Player) : Option ((List Int)) :=
  some ([p0.X, p0.Y, p0.VX, p0.VY, (IntKind.wrap .i32 p0.Health), (IntKind.wrap .i32 p0.Cool), (IntKind.wrap .i32 p0.Face)] : List Int)

def m_state_within_L6 (F : Nat) (p0 : (List Int)) (p1 : (List (Int × Int))) : Nat → Int → Option ((Bool) ⊕ (Bool))
  | 0, _ => none
  | n + 1, j7_8 =>
      (cond (decide (j7_8 < (p0.length : Int))) (Option.bind (getI p0 j7_8) fun v13 => (Option.bind (getI p1 j7_8) fun v17 => (Option.bind (cond
        (decide (v13 < v17.1)) (some (true)) ((Option.bind (getI p0 j7_8) fun v24 => (Option.bind (getI p1 j7_8) fun v28 => some ((decide (v28.2 <
        v24))))))) fun v32 => (cond v32 (some (.inr false)) (m_state_within_L6 F p0 p1 n (IntKind.wrap .i64 (j7_8 + (1 : Int)))))))) (some (.inl
        false)))

def m_state_within (F : Nat) (p0 : (List Int)) (p1 : (List (Int × Int))) : Option (Bool) :=
  (Option.bind (m_state_within_L6 F p0 p1 F (0 : Int)) (orE (fun l7_4 => some true) (fun r7 => some r7)))

def m_state_ofShot (F : Nat) (p0 : T_api_Shot) : Option ((List Int)) :=
  some ([p0.X, p0.Y, p0.VX, p0.VY, (IntKind.wrap .i32 p0.Owner), (IntKind.wrap .i32 p0.Life)] : List Int)

def m_state_Check_1 (F : Nat) (p0 : T_api_Shot) (p1 : (Arr (Int × Int) 6)) : Option (Bool) :=
  (Option.bind (m_state_ofShot F p0) fun v5 => (Option.bind (m_state_within F v5 p1.1) fun v7 => some (!v7)))

def m_slices_IndexFunc___api_Shot_api_Shot_f1_state_Check_1_L6 (F : Nat) (p0 : (List T_api_Shot)) (p1c0 : (Arr (Int × Int) 6)) : Nat → Int → Option ((Int) ⊕ (Int))
  | 0, _ => none
  | n + 1, j7_8 =>
      (cond (decide (j7_8 < (p0.length : Int))) (Option.bind (getI p0 j7_8) fun v14 => (Option.bind (m_state_Check_1 F v14 p1c0) fun v16 => (cond v16
        (some (.inr j7_8)) (m_slices_IndexFunc___api_Shot_api_Shot_f1_state_Check_1_L6 F p0 p1c0 n (IntKind.wrap .i64 (j7_8 + (1 : Int))))))) (some
        (.inl (0 : Int))))

def m_slices_IndexFunc___api_Shot_api_Shot_f1_state_Check_1 (F : Nat) (p0 : (List T_api_Shot)) (p1c0 : (Arr (Int × Int) 6)) : Option (Int) :=
  (Option.bind (m_slices_IndexFunc___api_Shot_api_Shot_f1_state_Check_1_L6 F p0 p1c0 F (0 : Int)) (orE (fun l7_4 => some (-1 : Int)) (fun r7 => some
    r7)))

def m_slices_ContainsFunc___api_Shot_api_Shot_f1_state_Check_1 (F : Nat) (p0 : (List T_api_Shot)) (p1c0 : (Arr (Int × Int) 6)) : Option (Bool) :=
  (Option.bind (m_slices_IndexFunc___api_Shot_api_Shot_f1_state_Check_1 F p0 p1c0) fun v7 => some (decide ((0 : Int) ≤ v7)))

def m_state_Check_L10 (F : Nat) (p0 : T_api_State) : Nat → Bool → Int → Option (Bool)
  | 0, _, _ => none
  | n + 1, j11_5, j11_16 =>
      (cond (decide (j11_16 < (2 : Int))) (cond (j11_16 == (0 : Int)) ((Option.bind (cond j11_5 ((Option.bind (m_state_ofPlayer F p0.Players.1) fun
        v22 => (Option.bind (m_state_within F v22 ([((0 : Int), (61440 : Int)), ((0 : Int), (28672 : Int)), (((-1024) : Int), (1024 : Int)), (((-1024)
        : Int), (1024 : Int)), ((1 : Int), (100 : Int)), ((0 : Int), (30 : Int)), ((0 : Int), (3 : Int))] : List (Int × Int))) fun v24 => some
        (v24)))) (some (false))) fun v25 => m_state_Check_L10 F p0 n v25 (IntKind.wrap .i64 (j11_16 + (1 : Int))))) (cond (j11_16 == (1 : Int))
        ((Option.bind (cond j11_5 ((Option.bind (m_state_ofPlayer F p0.Players.2) fun v22 => (Option.bind (m_state_within F v22 ([((0 : Int), (61440 :
        Int)), ((0 : Int), (28672 : Int)), (((-1024) : Int), (1024 : Int)), (((-1024) : Int), (1024 : Int)), ((1 : Int), (100 : Int)), ((0 : Int), (30
        : Int)), ((0 : Int), (3 : Int))] : List (Int × Int))) fun v24 => some (v24)))) (some (false))) fun v25 => m_state_Check_L10 F p0 n v25
        (IntKind.wrap .i64 (j11_16 + (1 : Int))))) none)) (some j11_5))

def m_state_Check (F : Nat) (p0 : T_api_State) : Option (Int) :=
  (Option.bind (m_state_Check_L10 F p0 F (decide ((p0.Shots.length : Int) ≤ (8 : Int))) (0 : Int)) fun l11_5 => (Option.bind (cond (!l11_5) (some
    (true)) ((Option.bind (m_slices_ContainsFunc___api_Shot_api_Shot_f1_state_Check_1 F p0.Shots (⟨[((0 : Int), (65024 : Int)), ((0 : Int), (32256 :
    Int)), (((-2048) : Int), (2048 : Int)), (((-2048) : Int), (2048 : Int)), ((0 : Int), (1 : Int)), ((1 : Int), (40 : Int))], rfl⟩ : Arr (Int × Int)
    6)) fun v33 => some (v33)))) fun v34 => (cond v34 (some (4 : Int)) (some (0 : Int)))))

def m_codec_put_uint64_L9 (F : Nat) (p1 : Int) (p2 : Int) : Nat → Int → (List Int) → Option ((List Int))
  | 0, _, _ => none
  | n + 1, j10_10, j10_p0_f0 =>
      (cond (decide (j10_10 < p2)) (Option.bind (shrI .u64 p1 (IntKind.wrap .i64 ((8 : Int) * j10_10))) fun v21 => (Option.bind (appI j10_p0_f0
        ([(IntKind.wrap .u8 v21)] : List Int)) fun v24 => m_codec_put_uint64_L9 F p1 p2 n (IntKind.wrap .i64 (j10_10 + (1 : Int))) v24)) (some
        j10_p0_f0))

def m_codec_put_uint64 (F : Nat) (p0 : T_codec_Writer) (p1 : Int) (p2 : Int) : Option (T_codec_Writer) :=
  (Option.bind (m_codec_put_uint64_L9 F p1 p2 F (0 : Int) p0.b) fun l10_p0_f0 => some (T_codec_Writer.mk l10_p0_f0))

def m_codec_Writer_U64 (F : Nat) (p0 : T_codec_Writer) (p1 : Int) : Option (T_codec_Writer) :=
  (Option.bind (m_codec_put_uint64 F p0 p1 (8 : Int)) fun o6_0 => some o6_0)

def m_codec_put_uint32_L9 (F : Nat) (p1 : Int) (p2 : Int) : Nat → Int → (List Int) → Option ((List Int))
  | 0, _, _ => none
  | n + 1, j10_10, j10_p0_f0 =>
      (cond (decide (j10_10 < p2)) (Option.bind (shrI .u64 (IntKind.wrap .u64 p1) (IntKind.wrap .i64 ((8 : Int) * j10_10))) fun v22 => (Option.bind
        (appI j10_p0_f0 ([(IntKind.wrap .u8 v22)] : List Int)) fun v25 => m_codec_put_uint32_L9 F p1 p2 n (IntKind.wrap .i64 (j10_10 + (1 : Int)))
        v25)) (some j10_p0_f0))

def m_codec_put_uint32 (F : Nat) (p0 : T_codec_Writer) (p1 : Int) (p2 : Int) : Option (T_codec_Writer) :=
  (Option.bind (m_codec_put_uint32_L9 F p1 p2 F (0 : Int) p0.b) fun l10_p0_f0 => some (T_codec_Writer.mk l10_p0_f0))

def m_codec_Writer_I32 (F : Nat) (p0 : T_codec_Writer) (p1 : Int) : Option (T_codec_Writer) :=
  (Option.bind (m_codec_put_uint32 F p0 (IntKind.wrap .u32 p1) (4 : Int)) fun o7_0 => some o7_0)

def m_codec_put_uint8_L9 (F : Nat) (p1 : Int) (p2 : Int) : Nat → Int → (List Int) → Option ((List Int))
  | 0, _, _ => none
  | n + 1, j10_10, j10_p0_f0 =>
      (cond (decide (j10_10 < p2)) (Option.bind (shrI .u64 (IntKind.wrap .u64 p1) (IntKind.wrap .i64 ((8 : Int) * j10_10))) fun v22 => (Option.bind
        (appI j10_p0_f0 ([(IntKind.wrap .u8 v22)] : List Int)) fun v25 => m_codec_put_uint8_L9 F p1 p2 n (IntKind.wrap .i64 (j10_10 + (1 : Int)))
        v25)) (some j10_p0_f0))

def m_codec_put_uint8 (F : Nat) (p0 : T_codec_Writer) (p1 : Int) (p2 : Int) : Option (T_codec_Writer) :=
  (Option.bind (m_codec_put_uint8_L9 F p1 p2 F (0 : Int) p0.b) fun l10_p0_f0 => some (T_codec_Writer.mk l10_p0_f0))

def m_codec_Writer_U8 (F : Nat) (p0 : T_codec_Writer) (p1 : Int) : Option (T_codec_Writer) :=
  (Option.bind (m_codec_put_uint8 F p0 p1 (1 : Int)) fun o6_0 => some o6_0)

def m_state_put_L3 (F : Nat) (p1 : (List Int)) : Nat → Int → (List Int) → Option ((List Int))
  | 0, _, _ => none
  | n + 1, j4_8, j4_p0_f0 =>
      (cond (decide (j4_8 < (p1.length : Int))) (Option.bind (getI p1 j4_8) fun v11 => (cond (decide (j4_8 < (4 : Int))) (Option.bind
        (m_codec_Writer_I32 F (T_codec_Writer.mk j4_p0_f0) v11) fun o17_0 => m_state_put_L3 F p1 n (IntKind.wrap .i64 (j4_8 + (1 : Int))) o17_0.b)
        (Option.bind (m_codec_Writer_U8 F (T_codec_Writer.mk j4_p0_f0) (IntKind.wrap .u8 v11)) fun o21_0 => m_state_put_L3 F p1 n (IntKind.wrap .i64
        (j4_8 + (1 : Int))) o21_0.b))) (some j4_p0_f0))

def m_state_put (F : Nat) (p0 : T_codec_Writer) (p1 : (List Int)) : Option (T_codec_Writer) :=
  (Option.bind (m_state_put_L3 F p1 F (0 : Int) p0.b) fun l4_p0_f0 => some (T_codec_Writer.mk l4_p0_f0))

def m_codec_Writer_Var_L2 (F : Nat) : Nat → Int → (List Int) → Option (Int × (List Int))
  | 0, _, _ => none
  | n + 1, j3_1, j3_p0_f0 =>
      (cond (decide ((127 : Int) < j3_1)) (Option.bind (m_codec_Writer_U8 F (T_codec_Writer.mk j3_p0_f0) (bits .or .u8 (IntKind.wrap .u8 j3_1) (128 :
        Int))) fun o10_0 => m_codec_Writer_Var_L2 F n (j3_1 / 2 ^ (min 7 (IntKind.bits .u64))) o10_0.b) (some (j3_1, j3_p0_f0)))

def m_codec_Writer_Var (F : Nat) (p0 : T_codec_Writer) (p1 : Int) : Option (T_codec_Writer) :=
  (Option.bind (m_codec_Writer_Var_L2 F F p1 p0.b) fun (l3_1, l3_p0_f0) => (Option.bind (m_codec_Writer_U8 F (T_codec_Writer.mk l3_p0_f0)
    (IntKind.wrap .u8 l3_1)) fun o16_0 => some o16_0))

def m_codec_put_uint16_L9 (F : Nat) (p1 : Int) (p2 : Int) : Nat → Int → (List Int) → Option ((List Int))
  | 0, _, _ => none
  | n + 1, j10_10, j10_p0_f0 =>
      (cond (decide (j10_10 < p2)) (Option.bind (shrI .u64 (IntKind.wrap .u64 p1) (IntKind.wrap .i64 ((8 : Int) * j10_10))) fun v22 => (Option.bind
        (appI j10_p0_f0 ([(IntKind.wrap .u8 v22)] : List Int)) fun v25 => m_codec_put_uint16_L9 F p1 p2 n (IntKind.wrap .i64 (j10_10 + (1 : Int)))
        v25)) (some j10_p0_f0))

def m_codec_put_uint16 (F : Nat) (p0 : T_codec_Writer) (p1 : Int) (p2 : Int) : Option (T_codec_Writer) :=
  (Option.bind (m_codec_put_uint16_L9 F p1 p2 F (0 : Int) p0.b) fun l10_p0_f0 => some (T_codec_Writer.mk l10_p0_f0))

def m_codec_Writer_U16 (F : Nat) (p0 : T_codec_Writer) (p1 : Int) : Option (T_codec_Writer) :=
  (Option.bind (m_codec_put_uint16 F p0 p1 (2 : Int)) fun o6_0 => some o6_0)

def m_codec_Writer_Bytes (F : Nat) (p0 : T_codec_Writer) : Option ((List UInt8)) :=
  some (toB p0.b)

def m_state_Put_L20 (F : Nat) (p0 : T_api_State) : Nat → Int → (List Int) → Option ((List Int))
  | 0, _, _ => none
  | n + 1, j21_21, j21_n3_f0 =>
      (cond (decide (j21_21 < (2 : Int))) (cond (j21_21 == (0 : Int)) ((Option.bind (m_state_ofPlayer F p0.Players.1) fun v25 => (Option.bind
        (m_state_put F (T_codec_Writer.mk j21_n3_f0) v25) fun o26_0 => m_state_Put_L20 F p0 n (IntKind.wrap .i64 (j21_21 + (1 : Int))) o26_0.b)))
        (cond (j21_21 == (1 : Int)) ((Option.bind (m_state_ofPlayer F p0.Players.2) fun v25 => (Option.bind (m_state_put F (T_codec_Writer.mk
        j21_n3_f0) v25) fun o26_0 => m_state_Put_L20 F p0 n (IntKind.wrap .i64 (j21_21 + (1 : Int))) o26_0.b))) none)) (some j21_n3_f0))

def m_state_Put_L39 (F : Nat) (p0 : T_api_State) : Nat → Int → (List Int) → Option ((List Int))
  | 0, _, _ => none
  | n + 1, j40_36, j40_n3_f0 =>
      (cond (decide (j40_36 < (p0.Shots.length : Int))) (Option.bind (getI p0.Shots j40_36) fun v38 => (Option.bind (m_state_ofShot F v38) fun v41 =>
        (Option.bind (m_state_put F (T_codec_Writer.mk j40_n3_f0) v41) fun o42_0 => m_state_Put_L39 F p0 n (IntKind.wrap .i64 (j40_36 + (1 : Int)))
        o42_0.b))) (some j40_n3_f0))

def m_state_Put_L56 (F : Nat) (p0 : T_api_State) : Nat → Int → (List Int) → Option ((List Int))
  | 0, _, _ => none
  | n + 1, j57_46, j57_n3_f0 =>
      (cond (decide (j57_46 < (2 : Int))) (cond (j57_46 == (0 : Int)) ((Option.bind (m_codec_Writer_U16 F (T_codec_Writer.mk j57_n3_f0) p0.Score.1)
        fun o50_0 => m_state_Put_L56 F p0 n (IntKind.wrap .i64 (j57_46 + (1 : Int))) o50_0.b)) (cond (j57_46 == (1 : Int)) ((Option.bind
        (m_codec_Writer_U16 F (T_codec_Writer.mk j57_n3_f0) p0.Score.2) fun o50_0 => m_state_Put_L56 F p0 n (IntKind.wrap .i64 (j57_46 + (1 : Int)))
        o50_0.b)) none)) (some j57_n3_f0))

def m_state_Put (F : Nat) (p0 : T_api_State) : Option ((List UInt8)) :=
  (Option.bind (m_state_Check F p0) fun v11 => (cond (v11 != (0 : Int)) (some ([] : List UInt8)) (Option.bind (m_codec_Writer_U64 F (T_codec_Writer.mk
    ([] : List Int)) p0.Frame) fun o15_0 => (Option.bind (m_codec_Writer_U64 F o15_0 p0.Seed) fun o18_0 => (Option.bind (m_state_Put_L20 F p0 F (0 :
    Int) o18_0.b) fun l21_n3_f0 => (Option.bind (m_codec_Writer_Var F (T_codec_Writer.mk l21_n3_f0) (IntKind.wrap .u64 (p0.Shots.length : Int))) fun
    o32_0 => (Option.bind (m_state_Put_L39 F p0 F (0 : Int) o32_0.b) fun l40_n3_f0 => (Option.bind (m_state_Put_L56 F p0 F (0 : Int) l40_n3_f0) fun
    l57_n3_f0 => (Option.bind (m_codec_Writer_Bytes F (T_codec_Writer.mk l57_n3_f0)) fun v52 => some v52)))))))))

def m_digest_Join_L6 (F : Nat) (p1 : (List UInt8)) : Nat → Int → Int → Option (Int)
  | 0, _, _ => none
  | n + 1, j7_0, j7_8 =>
      (cond (decide (j7_8 < (p1.length : Int))) (Option.bind (getI p1 j7_8) fun v14 => m_digest_Join_L6 F p1 n (IntKind.wrap .u64 ((bits .xor .u64
        j7_0 (IntKind.wrap .u64 (v14.toNat : Int))) * (1099511628211 : Int))) (IntKind.wrap .i64 (j7_8 + (1 : Int)))) (some j7_0))

def m_digest_Join (F : Nat) (p0 : Int) (p1 : (List UInt8)) : Option (Int) :=
  (Option.bind (m_digest_Join_L6 F p1 F p0 (0 : Int)) fun l7_0 => some l7_0)

def m_digest_Of (F : Nat) (p0 : T_api_State) : Option (Int) :=
  (Option.bind (m_state_Put F p0) fun v4 => (Option.bind (m_digest_Join F (14695981039346656037 : Int) v4) fun v5 => some v5))

def m_watch_Watch_Latest_nil0 (F : Nat) : Option (Int × Int × Bool) :=
  (Option.bind (m_watch_Watch_is_nil0 F) fun v8 => (cond (!v8) (some ((0 : Int), (0 : Int), false)) none))

def m_watch_Watch_Agreed_L14 (F : Nat) (p0 : T_watch_Watch) : Nat → Int → Bool → Int → Option (Int × Bool)
  | 0, _, _, _ => none
  | n + 1, j15_2, j15_3, j15_14 =>
      (cond (decide (j15_14 < (p0.l.length : Int))) (Option.bind (getI p0.l j15_14) fun v16 => (Option.bind (cond v16.own.is_ (some (((v16.own.n ==
        v16.other.n) && (v16.own.is_ == v16.other.is_)))) (some (false))) fun v27 => (cond v27 (m_watch_Watch_Agreed_L14 F p0 n v16.f true
        (IntKind.wrap .i64 (j15_14 + (1 : Int)))) (m_watch_Watch_Agreed_L14 F p0 n j15_2 j15_3 (IntKind.wrap .i64 (j15_14 + (1 : Int))))))) (some
        (j15_2, j15_3)))

def m_watch_Watch_Agreed (F : Nat) (p0 : T_watch_Watch) : Option (Int × Bool) :=
  (Option.bind (m_watch_Watch_is F p0) fun v7 => (cond (!v7) (some ((0 : Int), false)) (Option.bind (m_watch_Watch_Agreed_L14 F p0 F (0 : Int) false
    (0 : Int)) fun (l15_2, l15_3) => some (l15_2, l15_3))))

def m_hindcastlaw29_awake (F : Nat) : Option (Bool) :=
  (Option.bind (m_watch_New F (4 : Int)) fun v4 => poE (some false) (fun v4s => (Option.bind (m_watch_Watch_Own F v4s (4 : Int) (7 : Int)) fun (o9_0,
    v9) => (Option.bind (cond (v9 != (0 : Int)) (some (true, o9_0.rows, o9_0.l, o9_0.clashed)) ((Option.bind (m_watch_Watch_Other F o9_0 (4 : Int) (7
    : Int)) fun (o14_0, v14) => some ((v14 != (0 : Int)), o14_0.rows, o14_0.l, o14_0.clashed)))) fun (v16, g16_n4_0_f0, g16_n4_0_f1, g16_n4_0_f2) =>
    (Option.bind (cond v16 (some (true, g16_n4_0_f0, g16_n4_0_f1, g16_n4_0_f2)) ((Option.bind (m_watch_Watch_Other F (T_watch_Watch.mk g16_n4_0_f0
    g16_n4_0_f1 g16_n4_0_f2) (6 : Int) (1 : Int)) fun (o19_0, v19) => some ((v19 != (2 : Int)), o19_0.rows, o19_0.l, o19_0.clashed)))) fun (v21,
    g21_n4_0_f0, g21_n4_0_f1, g21_n4_0_f2) => (cond v21 (some false) (Option.bind (m_watch_Watch_Agreed F (T_watch_Watch.mk g21_n4_0_f0 g21_n4_0_f1
    g21_n4_0_f2)) fun (v24_0, v24_1) => (Option.bind (cond (v24_0 == (4 : Int)) (some (v24_1)) (some (false))) fun v31 => (Option.bind (cond v31
    ((Option.bind (m_watch_Watch_Other F (T_watch_Watch.mk g21_n4_0_f0 g21_n4_0_f1 g21_n4_0_f2) (8 : Int) (1 : Int)) fun (o34_0, v34) => some ((v34 ==
    (0 : Int)), o34_0.rows, o34_0.l, o34_0.clashed))) (some (false, g21_n4_0_f0, g21_n4_0_f1, g21_n4_0_f2))) fun (v36, g36_n4_0_f0, g36_n4_0_f1,
    g36_n4_0_f2) => (Option.bind (cond v36 ((Option.bind (m_watch_Watch_Own F (T_watch_Watch.mk g36_n4_0_f0 g36_n4_0_f1 g36_n4_0_f2) (8 : Int) (9 :
    Int)) fun (o39_0, v39) => some ((v39 == (14 : Int)), o39_0.rows, o39_0.l, o39_0.clashed))) (some (false, g36_n4_0_f0, g36_n4_0_f1, g36_n4_0_f2)))
    fun (v41, g41_n4_0_f0, g41_n4_0_f1, g41_n4_0_f2) => (Option.bind (cond v41 ((Option.bind (m_watch_Watch_Clashed F (T_watch_Watch.mk g41_n4_0_f0
    g41_n4_0_f1 g41_n4_0_f2)) fun v44 => some (v44))) (some (false))) fun v45 => some v45)))))))))) v4)

def m_watch_Watch_State (F : Nat) (p0 : T_watch_Watch) (p1 : T_api_State) : Option (T_watch_Watch × Int) :=
  (Option.bind (m_watch_Watch_is F p0) fun v7 => (cond (!v7) (some (p0, (1 : Int))) (Option.bind (remI p1.Frame p0.rows) fun v16 => (cond (v16 != (0 :
    Int)) (some (p0, (0 : Int))) (Option.bind (m_digest_Of F p1) fun v22 => (Option.bind (m_watch_Watch_Own F p0 p1.Frame v22) fun (o23_0, v23) =>
    some (o23_0, v23)))))))

def m_hindcastlaw29_WatchKnown_L28 (F : Nat) : Nat → Int → Option ((Bool) ⊕ (Bool))
  | 0, _ => none
  | n + 1, j29_6 =>
      (cond (decide (j29_6 < (9 : Int))) (Option.bind (m_watch_Watch_Own_nil0 F (IntKind.wrap .u64 ((4 : Int) * j29_6)) (7 : Int)) fun v79 => (cond
        (v79 != (0 : Int)) (some (.inr false)) (m_hindcastlaw29_WatchKnown_L28 F n (IntKind.wrap .u64 (j29_6 + (1 : Int)))))) (some (.inl false)))

def m_hindcastlaw29_WatchKnown_L28_1 (F : Nat) : Nat → Int → Int → (List T_watch_entry) → Bool → Option ((Bool × Int × (List T_watch_entry) × Bool) ⊕ (Bool))
  | 0, _, _, _, _ => none
  | n + 1, j29_6, j29_n71_0_f0, j29_n71_0_f1, j29_n71_0_f2 =>
      (cond (decide (j29_6 < (9 : Int))) (Option.bind (m_watch_Watch_Own F (T_watch_Watch.mk j29_n71_0_f0 j29_n71_0_f1 j29_n71_0_f2) (IntKind.wrap
        .u64 ((4 : Int) * j29_6)) (7 : Int)) fun (o79_0, v79) => (cond (v79 != (0 : Int)) (some (.inr false)) (m_hindcastlaw29_WatchKnown_L28_1 F n
        (IntKind.wrap .u64 (j29_6 + (1 : Int))) o79_0.rows o79_0.l o79_0.clashed))) (some (.inl (false, j29_n71_0_f0, j29_n71_0_f1, j29_n71_0_f2))))

def m_hindcastlaw29_WatchKnown (F : Nat) : Option (Bool) :=
  (Option.bind (m_watch_New F (4 : Int)) fun v17 => poE (some false) (fun v17s => (Option.bind (m_watch_Watch_Own F v17s (4 : Int) (7 : Int)) fun
    (o22_0, v22) => (Option.bind (cond (v22 != (0 : Int)) (some (true, o22_0.rows, o22_0.l, o22_0.clashed)) ((Option.bind (m_watch_Watch_Other F o22_0
    (4 : Int) (7 : Int)) fun (o27_0, v27) => some ((v27 != (0 : Int)), o27_0.rows, o27_0.l, o27_0.clashed)))) fun (v29, g29_n17_0_f0, g29_n17_0_f1,
    g29_n17_0_f2) => (Option.bind (cond v29 (some (true, g29_n17_0_f0, g29_n17_0_f1, g29_n17_0_f2)) ((Option.bind (m_watch_Watch_Own F
    (T_watch_Watch.mk g29_n17_0_f0 g29_n17_0_f1 g29_n17_0_f2) (8 : Int) (9 : Int)) fun (o32_0, v32) => some ((v32 != (0 : Int)), o32_0.rows, o32_0.l,
    o32_0.clashed)))) fun (v34, g34_n17_0_f0, g34_n17_0_f1, g34_n17_0_f2) => (cond v34 (some false) (Option.bind (m_watch_Watch_Latest F
    (T_watch_Watch.mk g34_n17_0_f0 g34_n17_0_f1 g34_n17_0_f2)) fun (v37_0, v37_1, v37_2) => (Option.bind (cond (v37_0 != (8 : Int)) (some (true))
    (some ((v37_1 != (9 : Int))))) fun v46 => (Option.bind (cond v46 (some (true)) (some ((!v37_2)))) fun v50 => (Option.bind (cond v50 (some (true,
    g34_n17_0_f0, g34_n17_0_f1, g34_n17_0_f2)) ((Option.bind (m_watch_Watch_Other F (T_watch_Watch.mk g34_n17_0_f0 g34_n17_0_f1 g34_n17_0_f2) (8 :
    Int) (1 : Int)) fun (o53_0, v53) => some ((v53 != (14 : Int)), o53_0.rows, o53_0.l, o53_0.clashed)))) fun (v55, g55_n17_0_f0, g55_n17_0_f1,
    g55_n17_0_f2) => (Option.bind (cond v55 (some (true)) ((Option.bind (m_watch_Watch_Clashed F (T_watch_Watch.mk g55_n17_0_f0 g55_n17_0_f1
    g55_n17_0_f2)) fun v58 => some ((!v58))))) fun v60 => (Option.bind (cond v60 (some (true, g55_n17_0_f0, g55_n17_0_f1, g55_n17_0_f2)) ((Option.bind
    (m_watch_Watch_Own F (T_watch_Watch.mk g55_n17_0_f0 g55_n17_0_f1 g55_n17_0_f2) (12 : Int) (1 : Int)) fun (o63_0, v63) => some ((v63 != (14 :
    Int)), o63_0.rows, o63_0.l, o63_0.clashed)))) fun (v65, g65_n17_0_f0, g65_n17_0_f1, g65_n17_0_f2) => (Option.bind (cond v65 (some (true,
    g65_n17_0_f0, g65_n17_0_f1, g65_n17_0_f2)) ((Option.bind (m_watch_Watch_Own F (T_watch_Watch.mk g65_n17_0_f0 g65_n17_0_f1 g65_n17_0_f2) (5 : Int)
    (1 : Int)) fun (o68_0, v68) => some ((v68 != (2 : Int)), o68_0.rows, o68_0.l, o68_0.clashed)))) fun (v70, g70_n17_0_f0, g70_n17_0_f1,
    g70_n17_0_f2) => (cond v70 (some false) (Option.bind (m_watch_New F (4 : Int)) fun v71 => poE ((Option.bind (m_hindcastlaw29_WatchKnown_L28 F F (0
    : Int)) (orE (fun l29_0 => (Option.bind (m_watch_Watch_Agreed_nil0 F) fun (v83_0, v83_1) => (Option.bind (m_watch_New F (1 : Int)) fun v86 => poE
    ((Option.bind (cond v83_1 (some (true)) ((Option.bind (m_watch_Watch_Other_nil0 F (0 : Int) (5 : Int)) fun v90 => some ((v90 != (0 : Int)))))) fun
    v92 => (Option.bind (cond v92 (some (true)) ((Option.bind (m_watch_Watch_Clashed_nil0 F) fun v95 => some (v95)))) fun v96 => (Option.bind (cond
    v96 (some (true)) ((Option.bind (m_watch_Watch_Own_nil0 F (4 : Int) (8 : Int)) fun v99 => some ((v99 != (14 : Int)))))) fun v101 => (Option.bind
    (cond v101 (some (true)) ((Option.bind (m_state_Start F (7 : Int)) fun v104 => (Option.bind (m_watch_Watch_State_nil0 F v104) fun v105 => some
    ((v105 != (0 : Int))))))) fun v107 => (Option.bind (cond v107 (some (true)) ((Option.bind (m_state_Start F (7 : Int)) fun v110 => (Option.bind
    (m_digest_Of F v110) fun v111 => (Option.bind (m_watch_Watch_Other_nil0 F (0 : Int) v111) fun v112 => some ((v112 != (0 : Int)))))))) fun v114 =>
    (Option.bind (cond v114 (some (true)) ((Option.bind (m_state_Start F (7 : Int)) fun v117 => (Option.bind (m_digest_Of F v117) fun v118 =>
    (Option.bind (m_watch_Watch_Other_nil0 F (0 : Int) (IntKind.wrap .u64 ((1 : Int) + v118))) fun v120 => some ((v120 != (14 : Int)))))))) fun v122
    => (cond v122 (some false) (Option.bind (m_watch_Watch_Latest_nil0 F) fun (v127_0, v127_1, v127_2) => (Option.bind (m_watch_Watch_Agreed F
    (T_watch_Watch.mk (0 : Int) ([] : List T_watch_entry) false)) fun (v133_0, v133_1) => (Option.bind (m_watch_New F (0 : Int)) fun v136 => poE
    ((Option.bind (m_watch_New F (257 : Int)) fun v139 => poE ((Option.bind (m_watch_Watch_Own_nil0 F (0 : Int) (0 : Int)) fun v144 => (Option.bind
    (cond (v144 == (1 : Int)) ((Option.bind (m_watch_Watch_Other F (T_watch_Watch.mk (0 : Int) ([] : List T_watch_entry) false) (0 : Int) (0 : Int))
    fun (o149_0, v149) => some ((v149 == (1 : Int)), o149_0.rows, o149_0.l, o149_0.clashed))) (some (false, (0 : Int), ([] : List T_watch_entry),
    false))) fun (v151, g151_n124_f0, g151_n124_f1, g151_n124_f2) => (Option.bind (cond v151 ((Option.bind (m_watch_Watch_State_nil0 F (T_api_State.mk
    (0 : Int) (0 : Int) ((T_api_Player.mk (0 : Int) (0 : Int) (0 : Int) (0 : Int) (0 : Int) (0 : Int) (0 : Int)), (T_api_Player.mk (0 : Int) (0 : Int)
    (0 : Int) (0 : Int) (0 : Int) (0 : Int) (0 : Int))) ([] : List T_api_Shot) ((0 : Int), (0 : Int)))) fun v155 => some ((v155 == (1 : Int))))) (some
    (false))) fun v157 => (Option.bind (cond v157 (some ((!v127_2))) (some (false))) fun v161 => (Option.bind (cond v161 (some ((!v133_1))) (some
    (false))) fun v165 => (Option.bind (cond v165 ((Option.bind (m_watch_Watch_Clashed_nil0 F) fun v168 => some ((!v168)))) (some (false))) fun v170
    => (Option.bind (cond v170 ((Option.bind (m_watch_Watch_Clashed F (T_watch_Watch.mk g151_n124_f0 g151_n124_f1 g151_n124_f2)) fun v173 => some
    ((!v173)))) (some (false))) fun v175 => (Option.bind (cond v175 ((Option.bind (m_hindcastlaw29_awake F) fun v177 => some (v177))) (some (false)))
    fun v178 => some v178))))))))) (fun v139s => some false) v139)) (fun v136s => some false) v136))))))))))) (fun v86s => (Option.bind (cond v83_1
    (some (true)) ((Option.bind (m_watch_Watch_Other_nil0 F (0 : Int) (5 : Int)) fun v90 => some ((v90 != (0 : Int)))))) fun v92 => (Option.bind (cond
    v92 (some (true)) ((Option.bind (m_watch_Watch_Clashed_nil0 F) fun v95 => some (v95)))) fun v96 => (Option.bind (cond v96 (some (true))
    ((Option.bind (m_watch_Watch_Own_nil0 F (4 : Int) (8 : Int)) fun v99 => some ((v99 != (14 : Int)))))) fun v101 => (Option.bind (cond v101 (some
    (true, v86s.rows, v86s.l, v86s.clashed)) ((Option.bind (m_state_Start F (7 : Int)) fun v104 => (Option.bind (m_watch_Watch_State F v86s v104) fun
    (o105_0, v105) => some ((v105 != (0 : Int)), o105_0.rows, o105_0.l, o105_0.clashed))))) fun (v107, g107_n86_0_f0, g107_n86_0_f1, g107_n86_0_f2) =>
    (Option.bind (cond v107 (some (true, g107_n86_0_f0, g107_n86_0_f1, g107_n86_0_f2)) ((Option.bind (m_state_Start F (7 : Int)) fun v110 =>
    (Option.bind (m_digest_Of F v110) fun v111 => (Option.bind (m_watch_Watch_Other F (T_watch_Watch.mk g107_n86_0_f0 g107_n86_0_f1 g107_n86_0_f2) (0
    : Int) v111) fun (o112_0, v112) => some ((v112 != (0 : Int)), o112_0.rows, o112_0.l, o112_0.clashed)))))) fun (v114, g114_n86_0_f0, g114_n86_0_f1,
    g114_n86_0_f2) => (Option.bind (cond v114 (some (true, g114_n86_0_f0, g114_n86_0_f1, g114_n86_0_f2)) ((Option.bind (m_state_Start F (7 : Int)) fun
    v117 => (Option.bind (m_digest_Of F v117) fun v118 => (Option.bind (m_watch_Watch_Other F (T_watch_Watch.mk g114_n86_0_f0 g114_n86_0_f1
    g114_n86_0_f2) (0 : Int) (IntKind.wrap .u64 ((1 : Int) + v118))) fun (o120_0, v120) => some ((v120 != (14 : Int)), o120_0.rows, o120_0.l,
    o120_0.clashed)))))) fun (v122, g122_n86_0_f0, g122_n86_0_f1, g122_n86_0_f2) => (cond v122 (some false) (Option.bind (m_watch_Watch_Latest_nil0 F)
    fun (v127_0, v127_1, v127_2) => (Option.bind (m_watch_Watch_Agreed F (T_watch_Watch.mk (0 : Int) ([] : List T_watch_entry) false)) fun (v133_0,
    v133_1) => (Option.bind (m_watch_New F (0 : Int)) fun v136 => poE ((Option.bind (m_watch_New F (257 : Int)) fun v139 => poE ((Option.bind
    (m_watch_Watch_Own_nil0 F (0 : Int) (0 : Int)) fun v144 => (Option.bind (cond (v144 == (1 : Int)) ((Option.bind (m_watch_Watch_Other F
    (T_watch_Watch.mk (0 : Int) ([] : List T_watch_entry) false) (0 : Int) (0 : Int)) fun (o149_0, v149) => some ((v149 == (1 : Int)), o149_0.rows,
    o149_0.l, o149_0.clashed))) (some (false, (0 : Int), ([] : List T_watch_entry), false))) fun (v151, g151_n124_f0, g151_n124_f1, g151_n124_f2) =>
    (Option.bind (cond v151 ((Option.bind (m_watch_Watch_State_nil0 F (T_api_State.mk (0 : Int) (0 : Int) ((T_api_Player.mk (0 : Int) (0 : Int) (0 :
    Int) (0 : Int) (0 : Int) (0 : Int) (0 : Int)), (T_api_Player.mk (0 : Int) (0 : Int) (0 : Int) (0 : Int) (0 : Int) (0 : Int) (0 : Int))) ([] : List
    T_api_Shot) ((0 : Int), (0 : Int)))) fun v155 => some ((v155 == (1 : Int))))) (some (false))) fun v157 => (Option.bind (cond v157 (some
    ((!v127_2))) (some (false))) fun v161 => (Option.bind (cond v161 (some ((!v133_1))) (some (false))) fun v165 => (Option.bind (cond v165
    ((Option.bind (m_watch_Watch_Clashed_nil0 F) fun v168 => some ((!v168)))) (some (false))) fun v170 => (Option.bind (cond v170 ((Option.bind
    (m_watch_Watch_Clashed F (T_watch_Watch.mk g151_n124_f0 g151_n124_f1 g151_n124_f2)) fun v173 => some ((!v173)))) (some (false))) fun v175 =>
    (Option.bind (cond v175 ((Option.bind (m_hindcastlaw29_awake F) fun v177 => some (v177))) (some (false))) fun v178 => some v178))))))))) (fun
    v139s => some false) v139)) (fun v136s => some false) v136))))))))))) v86))) (fun r29 => some r29)))) (fun v71s => (Option.bind
    (m_hindcastlaw29_WatchKnown_L28_1 F F (0 : Int) v71s.rows v71s.l v71s.clashed) (orE (fun (l29_0, l29_n71_0_f0, l29_n71_0_f1, l29_n71_0_f2) =>
    (Option.bind (m_watch_Watch_Agreed F (T_watch_Watch.mk l29_n71_0_f0 l29_n71_0_f1 l29_n71_0_f2)) fun (v83_0, v83_1) => (Option.bind (m_watch_New F
    (1 : Int)) fun v86 => poE ((Option.bind (cond v83_1 (some (true, l29_n71_0_f0, l29_n71_0_f1, l29_n71_0_f2)) ((Option.bind (m_watch_Watch_Other F
    (T_watch_Watch.mk l29_n71_0_f0 l29_n71_0_f1 l29_n71_0_f2) (0 : Int) (5 : Int)) fun (o90_0, v90) => some ((v90 != (0 : Int)), o90_0.rows, o90_0.l,
    o90_0.clashed)))) fun (v92, g92_n71_0_f0, g92_n71_0_f1, g92_n71_0_f2) => (Option.bind (cond v92 (some (true)) ((Option.bind (m_watch_Watch_Clashed
    F (T_watch_Watch.mk g92_n71_0_f0 g92_n71_0_f1 g92_n71_0_f2)) fun v95 => some (v95)))) fun v96 => (Option.bind (cond v96 (some (true, g92_n71_0_f0,
    g92_n71_0_f1, g92_n71_0_f2)) ((Option.bind (m_watch_Watch_Own F (T_watch_Watch.mk g92_n71_0_f0 g92_n71_0_f1 g92_n71_0_f2) (4 : Int) (8 : Int)) fun
    (o99_0, v99) => some ((v99 != (14 : Int)), o99_0.rows, o99_0.l, o99_0.clashed)))) fun (v101, g101_n71_0_f0, g101_n71_0_f1, g101_n71_0_f2) =>
    (Option.bind (cond v101 (some (true)) ((Option.bind (m_state_Start F (7 : Int)) fun v104 => (Option.bind (m_watch_Watch_State_nil0 F v104) fun
    v105 => some ((v105 != (0 : Int))))))) fun v107 => (Option.bind (cond v107 (some (true)) ((Option.bind (m_state_Start F (7 : Int)) fun v110 =>
    (Option.bind (m_digest_Of F v110) fun v111 => (Option.bind (m_watch_Watch_Other_nil0 F (0 : Int) v111) fun v112 => some ((v112 != (0 : Int))))))))
    fun v114 => (Option.bind (cond v114 (some (true)) ((Option.bind (m_state_Start F (7 : Int)) fun v117 => (Option.bind (m_digest_Of F v117) fun v118
    => (Option.bind (m_watch_Watch_Other_nil0 F (0 : Int) (IntKind.wrap .u64 ((1 : Int) + v118))) fun v120 => some ((v120 != (14 : Int)))))))) fun
    v122 => (cond v122 (some false) (Option.bind (m_watch_Watch_Latest_nil0 F) fun (v127_0, v127_1, v127_2) => (Option.bind (m_watch_Watch_Agreed F
    (T_watch_Watch.mk (0 : Int) ([] : List T_watch_entry) false)) fun (v133_0, v133_1) => (Option.bind (m_watch_New F (0 : Int)) fun v136 => poE
    ((Option.bind (m_watch_New F (257 : Int)) fun v139 => poE ((Option.bind (m_watch_Watch_Own_nil0 F (0 : Int) (0 : Int)) fun v144 => (Option.bind
    (cond (v144 == (1 : Int)) ((Option.bind (m_watch_Watch_Other F (T_watch_Watch.mk (0 : Int) ([] : List T_watch_entry) false) (0 : Int) (0 : Int))
    fun (o149_0, v149) => some ((v149 == (1 : Int)), o149_0.rows, o149_0.l, o149_0.clashed))) (some (false, (0 : Int), ([] : List T_watch_entry),
    false))) fun (v151, g151_n124_f0, g151_n124_f1, g151_n124_f2) => (Option.bind (cond v151 ((Option.bind (m_watch_Watch_State_nil0 F (T_api_State.mk
    (0 : Int) (0 : Int) ((T_api_Player.mk (0 : Int) (0 : Int) (0 : Int) (0 : Int) (0 : Int) (0 : Int) (0 : Int)), (T_api_Player.mk (0 : Int) (0 : Int)
    (0 : Int) (0 : Int) (0 : Int) (0 : Int) (0 : Int))) ([] : List T_api_Shot) ((0 : Int), (0 : Int)))) fun v155 => some ((v155 == (1 : Int))))) (some
    (false))) fun v157 => (Option.bind (cond v157 (some ((!v127_2))) (some (false))) fun v161 => (Option.bind (cond v161 (some ((!v133_1))) (some
    (false))) fun v165 => (Option.bind (cond v165 ((Option.bind (m_watch_Watch_Clashed_nil0 F) fun v168 => some ((!v168)))) (some (false))) fun v170
    => (Option.bind (cond v170 ((Option.bind (m_watch_Watch_Clashed F (T_watch_Watch.mk g151_n124_f0 g151_n124_f1 g151_n124_f2)) fun v173 => some
    ((!v173)))) (some (false))) fun v175 => (Option.bind (cond v175 ((Option.bind (m_hindcastlaw29_awake F) fun v177 => some (v177))) (some (false)))
    fun v178 => some v178))))))))) (fun v139s => some false) v139)) (fun v136s => some false) v136))))))))))) (fun v86s => (Option.bind (cond v83_1
    (some (true, l29_n71_0_f0, l29_n71_0_f1, l29_n71_0_f2)) ((Option.bind (m_watch_Watch_Other F (T_watch_Watch.mk l29_n71_0_f0 l29_n71_0_f1
    l29_n71_0_f2) (0 : Int) (5 : Int)) fun (o90_0, v90) => some ((v90 != (0 : Int)), o90_0.rows, o90_0.l, o90_0.clashed)))) fun (v92, g92_n71_0_f0,
    g92_n71_0_f1, g92_n71_0_f2) => (Option.bind (cond v92 (some (true)) ((Option.bind (m_watch_Watch_Clashed F (T_watch_Watch.mk g92_n71_0_f0
    g92_n71_0_f1 g92_n71_0_f2)) fun v95 => some (v95)))) fun v96 => (Option.bind (cond v96 (some (true, g92_n71_0_f0, g92_n71_0_f1, g92_n71_0_f2))
    ((Option.bind (m_watch_Watch_Own F (T_watch_Watch.mk g92_n71_0_f0 g92_n71_0_f1 g92_n71_0_f2) (4 : Int) (8 : Int)) fun (o99_0, v99) => some ((v99
    != (14 : Int)), o99_0.rows, o99_0.l, o99_0.clashed)))) fun (v101, g101_n71_0_f0, g101_n71_0_f1, g101_n71_0_f2) => (Option.bind (cond v101 (some
    (true, v86s.rows, v86s.l, v86s.clashed)) ((Option.bind (m_state_Start F (7 : Int)) fun v104 => (Option.bind (m_watch_Watch_State F v86s v104) fun
    (o105_0, v105) => some ((v105 != (0 : Int)), o105_0.rows, o105_0.l, o105_0.clashed))))) fun (v107, g107_n86_0_f0, g107_n86_0_f1, g107_n86_0_f2) =>
    (Option.bind (cond v107 (some (true, g107_n86_0_f0, g107_n86_0_f1, g107_n86_0_f2)) ((Option.bind (m_state_Start F (7 : Int)) fun v110 =>
    (Option.bind (m_digest_Of F v110) fun v111 => (Option.bind (m_watch_Watch_Other F (T_watch_Watch.mk g107_n86_0_f0 g107_n86_0_f1 g107_n86_0_f2) (0
    : Int) v111) fun (o112_0, v112) => some ((v112 != (0 : Int)), o112_0.rows, o112_0.l, o112_0.clashed)))))) fun (v114, g114_n86_0_f0, g114_n86_0_f1,
    g114_n86_0_f2) => (Option.bind (cond v114 (some (true, g114_n86_0_f0, g114_n86_0_f1, g114_n86_0_f2)) ((Option.bind (m_state_Start F (7 : Int)) fun
    v117 => (Option.bind (m_digest_Of F v117) fun v118 => (Option.bind (m_watch_Watch_Other F (T_watch_Watch.mk g114_n86_0_f0 g114_n86_0_f1
    g114_n86_0_f2) (0 : Int) (IntKind.wrap .u64 ((1 : Int) + v118))) fun (o120_0, v120) => some ((v120 != (14 : Int)), o120_0.rows, o120_0.l,
    o120_0.clashed)))))) fun (v122, g122_n86_0_f0, g122_n86_0_f1, g122_n86_0_f2) => (cond v122 (some false) (Option.bind (m_watch_Watch_Latest_nil0 F)
    fun (v127_0, v127_1, v127_2) => (Option.bind (m_watch_Watch_Agreed F (T_watch_Watch.mk (0 : Int) ([] : List T_watch_entry) false)) fun (v133_0,
    v133_1) => (Option.bind (m_watch_New F (0 : Int)) fun v136 => poE ((Option.bind (m_watch_New F (257 : Int)) fun v139 => poE ((Option.bind
    (m_watch_Watch_Own_nil0 F (0 : Int) (0 : Int)) fun v144 => (Option.bind (cond (v144 == (1 : Int)) ((Option.bind (m_watch_Watch_Other F
    (T_watch_Watch.mk (0 : Int) ([] : List T_watch_entry) false) (0 : Int) (0 : Int)) fun (o149_0, v149) => some ((v149 == (1 : Int)), o149_0.rows,
    o149_0.l, o149_0.clashed))) (some (false, (0 : Int), ([] : List T_watch_entry), false))) fun (v151, g151_n124_f0, g151_n124_f1, g151_n124_f2) =>
    (Option.bind (cond v151 ((Option.bind (m_watch_Watch_State_nil0 F (T_api_State.mk (0 : Int) (0 : Int) ((T_api_Player.mk (0 : Int) (0 : Int) (0 :
    Int) (0 : Int) (0 : Int) (0 : Int) (0 : Int)), (T_api_Player.mk (0 : Int) (0 : Int) (0 : Int) (0 : Int) (0 : Int) (0 : Int) (0 : Int))) ([] : List
    T_api_Shot) ((0 : Int), (0 : Int)))) fun v155 => some ((v155 == (1 : Int))))) (some (false))) fun v157 => (Option.bind (cond v157 (some
    ((!v127_2))) (some (false))) fun v161 => (Option.bind (cond v161 (some ((!v133_1))) (some (false))) fun v165 => (Option.bind (cond v165
    ((Option.bind (m_watch_Watch_Clashed_nil0 F) fun v168 => some ((!v168)))) (some (false))) fun v170 => (Option.bind (cond v170 ((Option.bind
    (m_watch_Watch_Clashed F (T_watch_Watch.mk g151_n124_f0 g151_n124_f1 g151_n124_f2)) fun v173 => some ((!v173)))) (some (false))) fun v175 =>
    (Option.bind (cond v175 ((Option.bind (m_hindcastlaw29_awake F) fun v177 => some (v177))) (some (false))) fun v178 => some v178))))))))) (fun
    v139s => some false) v139)) (fun v136s => some false) v136))))))))))) v86))) (fun r29 => some r29)))) v71)))))))))))))) v17)

end Go.Proofs.YthlnellnlhkphaaDoor
