/-
  Models of the functions of the chapter: what each computes, as a Lean function (none: it is not said). Printed by a program of this claim's own.
-/
import Derived.Test.YthlnellnlhkphaaEng5
namespace Go.Proofs.Ythlnellnlhkphaa
open Go.Proofs.Ythlnellnlhkphaa.Eng
set_option linter.unusedVariables false
set_option linter.unusedSimpArgs false

structure T_watch_sum where
  n : Int
  is_ : Bool
theorem T_watch_sum.eta (x : T_watch_sum) : T_watch_sum.mk x.n x.is_ = x := rfl

def c_T_watch_sum (x : T_watch_sum) : List Value := [.int .u64 x.n, .bool x.is_]
theorem c_T_watch_sum_len (x : T_watch_sum) : (c_T_watch_sum x).length = 2 := rfl

structure T_watch_entry where
  f : Int
  own : T_watch_sum
  other : T_watch_sum
theorem T_watch_entry.eta (x : T_watch_entry) : T_watch_entry.mk x.f x.own x.other = x := rfl

def c_T_watch_entry (x : T_watch_entry) : List Value := [.int .u64 x.f, .int .u64 x.own.n, .bool x.own.is_, .int .u64 x.other.n, .bool x.other.is_]
theorem c_T_watch_entry_len (x : T_watch_entry) : (c_T_watch_entry x).length = 5 := rfl

structure T_watch_Watch where
  rows : Int
  l : (List T_watch_entry)
  clashed : Bool
theorem T_watch_Watch.eta (x : T_watch_Watch) : T_watch_Watch.mk x.rows x.l x.clashed = x := rfl

def m_watch_New (F : Nat) (p0 : Int) : Option ((Option T_watch_Watch)) :=
  (Option.bind (cond (decide (p0 < (1 : Int))) (some (true)) (some ((decide ((256 : Int) < p0))))) fun v8 => (cond v8 (some none) (some (some
    (T_watch_Watch.mk (IntKind.wrap .u64 p0) ([] : List T_watch_entry) false)))))

def m_watch_Watch_is_nil0 (F : Nat) : Option (Bool) :=
  some false

def m_watch_Watch_told_nil0_f3_watch_ownSide (F : Nat) (p1 : Int) (p2 : Int) : Option (Int) :=
  (Option.bind (m_watch_Watch_is_nil0 F) fun v13 => (cond (!v13) (some (1 : Int)) none))

def m_watch_Watch_Own_nil0 (F : Nat) (p1 : Int) (p2 : Int) : Option (Int) :=
  (Option.bind (m_watch_Watch_told_nil0_f3_watch_ownSide F p1 p2) fun v10 => some v10)

def m_watch_Watch_told_nil0_f3_watch_otherSide (F : Nat) (p1 : Int) (p2 : Int) : Option (Int) :=
  (Option.bind (m_watch_Watch_is_nil0 F) fun v13 => (cond (!v13) (some (1 : Int)) none))

def m_watch_Watch_Other_nil0 (F : Nat) (p1 : Int) (p2 : Int) : Option (Int) :=
  (Option.bind (m_watch_Watch_told_nil0_f3_watch_otherSide F p1 p2) fun v10 => some v10)

def m_watch_Watch_is (F : Nat) (p0 : T_watch_Watch) : Option (Bool) :=
  some (decide ((0 : Int) < p0.rows))

def m_cmp_isNaN_uint64 (F : Nat) (p0 : Int) : Option (Bool) :=
  some (p0 != p0)

def m_cmp_Compare_uint64 (F : Nat) (p0 : Int) (p1 : Int) : Option (Int) :=
  (Option.bind (m_cmp_isNaN_uint64 F p0) fun v8 => (Option.bind (m_cmp_isNaN_uint64 F p1) fun v10 => (cond v8 (cond v10 (some (0 : Int)) (some (-1 :
    Int))) (cond v10 (some (1 : Int)) (cond (decide (p0 < p1)) (some (-1 : Int)) (cond (decide (p1 < p0)) (some (1 : Int)) (some (0 : Int))))))))

def m_watch_Watch_at_1 (F : Nat) (p0 : T_watch_entry) (p1 : Int) : Option (Int) :=
  (Option.bind (m_cmp_Compare_uint64 F p0.f p1) fun v8 => some v8)

def m_slices_BinarySearchFunc___watch_entry_watch_entry_uint64_f2_watch_Watch_at_1_L8 (F : Nat) (p0 : (List T_watch_entry)) (p1 : Int) : Nat → Int → Int → Option (Int)
  | 0, _, _ => none
  | n + 1, j9_9, j9_10 =>
      (cond (decide (j9_9 < j9_10)) (Option.bind (getI p0 (IntKind.wrap .i64 ((IntKind.wrap .u64 (IntKind.wrap .i64 (j9_9 + j9_10))) / 2 ^ (min 1
        (IntKind.bits .u64))))) fun v27 => (Option.bind (m_watch_Watch_at_1 F v27 p1) fun v30 => (cond (decide (v30 < (0 : Int)))
        (m_slices_BinarySearchFunc___watch_entry_watch_entry_uint64_f2_watch_Watch_at_1_L8 F p0 p1 n (IntKind.wrap .i64 ((IntKind.wrap .i64
        ((IntKind.wrap .u64 (IntKind.wrap .i64 (j9_9 + j9_10))) / 2 ^ (min 1 (IntKind.bits .u64)))) + (1 : Int))) j9_10)
        (m_slices_BinarySearchFunc___watch_entry_watch_entry_uint64_f2_watch_Watch_at_1_L8 F p0 p1 n j9_9 (IntKind.wrap .i64 ((IntKind.wrap .u64
        (IntKind.wrap .i64 (j9_9 + j9_10))) / 2 ^ (min 1 (IntKind.bits .u64)))))))) (some j9_9))

def m_slices_BinarySearchFunc___watch_entry_watch_entry_uint64_f2_watch_Watch_at_1 (F : Nat) (p0 : (List T_watch_entry)) (p1 : Int) : Option (Int × Bool) :=
  (Option.bind (m_slices_BinarySearchFunc___watch_entry_watch_entry_uint64_f2_watch_Watch_at_1_L8 F p0 p1 F (0 : Int) (p0.length : Int)) fun l9_9 =>
    (Option.bind (cond (decide (l9_9 < (p0.length : Int))) ((Option.bind (getI p0 l9_9) fun v43 => (Option.bind (m_watch_Watch_at_1 F v43 p1) fun v46
    => some ((v46 == (0 : Int)))))) (some (false))) fun v48 => some (l9_9, v48)))

def m_watch_Watch_told_f3_watch_ownSide (F : Nat) (p0 : T_watch_Watch) (p1 : Int) (p2 : Int) : Option (T_watch_Watch × Int) :=
  (Option.bind (m_watch_Watch_is F p0) fun v13 => (cond (!v13) (some (p0, (1 : Int))) (Option.bind (remI p1 p0.rows) fun v21 => (cond (v21 != (0 :
    Int)) (some (p0, (2 : Int))) (Option.bind (m_slices_BinarySearchFunc___watch_entry_watch_entry_uint64_f2_watch_Watch_at_1 F p0.l p1) fun
    (v100013_0, v100013_1) => (cond v100013_1 (Option.bind (getI p0.l v100013_0) fun v100067 => (Option.bind (cond p0.clashed (some (true))
    ((Option.bind (cond v100067.own.is_ (some ((v100067.own.n != p2))) (some (false))) fun v48 => some (v48)))) fun v49 => (cond (!v100067.own.is_)
    (Option.bind (cond v49 (some (true)) ((Option.bind (cond v100067.other.is_ (some ((p2 != v100067.other.n))) (some (false))) fun v91 => some
    (v91)))) fun v92 => (cond v92 (some ((T_watch_Watch.mk p0.rows (setI p0.l v100013_0 (T_watch_entry.mk v100067.f (T_watch_sum.mk p2 true)
    v100067.other)) v92), (14 : Int))) (some ((T_watch_Watch.mk p0.rows (setI p0.l v100013_0 (T_watch_entry.mk v100067.f (T_watch_sum.mk p2 true)
    v100067.other)) v92), (0 : Int))))) (Option.bind (cond v49 (some (true)) ((Option.bind (cond v100067.own.is_ (some (v100067.other.is_)) (some
    (false))) fun v78 => (Option.bind (cond v78 (some ((v100067.own.n != v100067.other.n))) (some (false))) fun v91 => some (v91))))) fun v92 => (cond
    v92 (some ((T_watch_Watch.mk p0.rows p0.l v92), (14 : Int))) (some ((T_watch_Watch.mk p0.rows p0.l v92), (0 : Int)))))))) (cond (decide
    ((p0.l.length : Int) < (8 : Int))) (Option.bind (insM F p0.l v100013_0 ([(T_watch_entry.mk p1 (T_watch_sum.mk (0 : Int) false) (T_watch_sum.mk (0
    : Int) false))] : List T_watch_entry)) fun v100056 => (Option.bind (getI v100056 v100013_0) fun v100067 => (Option.bind (cond p0.clashed (some
    (true)) ((Option.bind (cond v100067.own.is_ (some ((v100067.own.n != p2))) (some (false))) fun v48 => some (v48)))) fun v49 => (cond
    (!v100067.own.is_) (Option.bind (cond v49 (some (true)) ((Option.bind (cond v100067.other.is_ (some ((p2 != v100067.other.n))) (some (false))) fun
    v91 => some (v91)))) fun v92 => (cond v92 (some ((T_watch_Watch.mk p0.rows (setI v100056 v100013_0 (T_watch_entry.mk v100067.f (T_watch_sum.mk p2
    true) v100067.other)) v92), (14 : Int))) (some ((T_watch_Watch.mk p0.rows (setI v100056 v100013_0 (T_watch_entry.mk v100067.f (T_watch_sum.mk p2
    true) v100067.other)) v92), (0 : Int))))) (Option.bind (cond v49 (some (true)) ((Option.bind (cond v100067.own.is_ (some (v100067.other.is_))
    (some (false))) fun v78 => (Option.bind (cond v78 (some ((v100067.own.n != v100067.other.n))) (some (false))) fun v91 => some (v91))))) fun v92 =>
    (cond v92 (some ((T_watch_Watch.mk p0.rows v100056 v92), (14 : Int))) (some ((T_watch_Watch.mk p0.rows v100056 v92), (0 : Int))))))))) (cond
    (v100013_0 == (0 : Int)) (cond p0.clashed (some (p0, (14 : Int))) (some (p0, (0 : Int)))) (Option.bind (insM F p0.l v100013_0 ([(T_watch_entry.mk
    p1 (T_watch_sum.mk (0 : Int) false) (T_watch_sum.mk (0 : Int) false))] : List T_watch_entry)) fun v100025 => (Option.bind (delM F v100025 (0 :
    Int) (1 : Int)) fun v100033 => (Option.bind (getI v100033 (IntKind.wrap .i64 (v100013_0 - (1 : Int)))) fun v100067 => (Option.bind (cond
    p0.clashed (some (true)) ((Option.bind (cond v100067.own.is_ (some ((v100067.own.n != p2))) (some (false))) fun v48 => some (v48)))) fun v49 =>
    (cond (!v100067.own.is_) (Option.bind (cond v49 (some (true)) ((Option.bind (cond v100067.other.is_ (some ((p2 != v100067.other.n))) (some
    (false))) fun v91 => some (v91)))) fun v92 => (cond v92 (some ((T_watch_Watch.mk p0.rows (setI v100033 (IntKind.wrap .i64 (v100013_0 - (1 : Int)))
    (T_watch_entry.mk v100067.f (T_watch_sum.mk p2 true) v100067.other)) v92), (14 : Int))) (some ((T_watch_Watch.mk p0.rows (setI v100033
    (IntKind.wrap .i64 (v100013_0 - (1 : Int))) (T_watch_entry.mk v100067.f (T_watch_sum.mk p2 true) v100067.other)) v92), (0 : Int))))) (Option.bind
    (cond v49 (some (true)) ((Option.bind (cond v100067.own.is_ (some (v100067.other.is_)) (some (false))) fun v78 => (Option.bind (cond v78 (some
    ((v100067.own.n != v100067.other.n))) (some (false))) fun v91 => some (v91))))) fun v92 => (cond v92 (some ((T_watch_Watch.mk p0.rows v100033
    v92), (14 : Int))) (some ((T_watch_Watch.mk p0.rows v100033 v92), (0 : Int))))))))))))))))))

def m_watch_Watch_Own (F : Nat) (p0 : T_watch_Watch) (p1 : Int) (p2 : Int) : Option (T_watch_Watch × Int) :=
  (Option.bind (m_watch_Watch_told_f3_watch_ownSide F p0 p1 p2) fun (o10_0, v10) => some (o10_0, v10))

def m_watch_Watch_told_f3_watch_otherSide (F : Nat) (p0 : T_watch_Watch) (p1 : Int) (p2 : Int) : Option (T_watch_Watch × Int) :=
  (Option.bind (m_watch_Watch_is F p0) fun v13 => (cond (!v13) (some (p0, (1 : Int))) (Option.bind (remI p1 p0.rows) fun v21 => (cond (v21 != (0 :
    Int)) (some (p0, (2 : Int))) (Option.bind (m_slices_BinarySearchFunc___watch_entry_watch_entry_uint64_f2_watch_Watch_at_1 F p0.l p1) fun
    (v100013_0, v100013_1) => (cond v100013_1 (Option.bind (getI p0.l v100013_0) fun v100067 => (Option.bind (cond p0.clashed (some (true))
    ((Option.bind (cond v100067.other.is_ (some ((v100067.other.n != p2))) (some (false))) fun v48 => some (v48)))) fun v49 => (cond
    (!v100067.other.is_) (Option.bind (cond v49 (some (true)) ((Option.bind (cond v100067.own.is_ (some (true)) (some (false))) fun v78 =>
    (Option.bind (cond v78 (some ((v100067.own.n != p2))) (some (false))) fun v91 => some (v91))))) fun v92 => (cond v92 (some ((T_watch_Watch.mk
    p0.rows (setI p0.l v100013_0 (T_watch_entry.mk v100067.f v100067.own (T_watch_sum.mk p2 true))) v92), (14 : Int))) (some ((T_watch_Watch.mk
    p0.rows (setI p0.l v100013_0 (T_watch_entry.mk v100067.f v100067.own (T_watch_sum.mk p2 true))) v92), (0 : Int))))) (Option.bind (cond v49 (some
    (true)) ((Option.bind (cond v100067.own.is_ (some (v100067.other.is_)) (some (false))) fun v78 => (Option.bind (cond v78 (some ((v100067.own.n !=
    v100067.other.n))) (some (false))) fun v91 => some (v91))))) fun v92 => (cond v92 (some ((T_watch_Watch.mk p0.rows p0.l v92), (14 : Int))) (some
    ((T_watch_Watch.mk p0.rows p0.l v92), (0 : Int)))))))) (cond (decide ((p0.l.length : Int) < (8 : Int))) (Option.bind (insM F p0.l v100013_0
    ([(T_watch_entry.mk p1 (T_watch_sum.mk (0 : Int) false) (T_watch_sum.mk (0 : Int) false))] : List T_watch_entry)) fun v100056 => (Option.bind
    (getI v100056 v100013_0) fun v100067 => (Option.bind (cond p0.clashed (some (true)) ((Option.bind (cond v100067.other.is_ (some ((v100067.other.n
    != p2))) (some (false))) fun v48 => some (v48)))) fun v49 => (cond (!v100067.other.is_) (Option.bind (cond v49 (some (true)) ((Option.bind (cond
    v100067.own.is_ (some (true)) (some (false))) fun v78 => (Option.bind (cond v78 (some ((v100067.own.n != p2))) (some (false))) fun v91 => some
    (v91))))) fun v92 => (cond v92 (some ((T_watch_Watch.mk p0.rows (setI v100056 v100013_0 (T_watch_entry.mk v100067.f v100067.own (T_watch_sum.mk p2
    true))) v92), (14 : Int))) (some ((T_watch_Watch.mk p0.rows (setI v100056 v100013_0 (T_watch_entry.mk v100067.f v100067.own (T_watch_sum.mk p2
    true))) v92), (0 : Int))))) (Option.bind (cond v49 (some (true)) ((Option.bind (cond v100067.own.is_ (some (v100067.other.is_)) (some (false)))
    fun v78 => (Option.bind (cond v78 (some ((v100067.own.n != v100067.other.n))) (some (false))) fun v91 => some (v91))))) fun v92 => (cond v92 (some
    ((T_watch_Watch.mk p0.rows v100056 v92), (14 : Int))) (some ((T_watch_Watch.mk p0.rows v100056 v92), (0 : Int))))))))) (cond (v100013_0 == (0 :
    Int)) (cond p0.clashed (some (p0, (14 : Int))) (some (p0, (0 : Int)))) (Option.bind (insM F p0.l v100013_0 ([(T_watch_entry.mk p1 (T_watch_sum.mk
    (0 : Int) false) (T_watch_sum.mk (0 : Int) false))] : List T_watch_entry)) fun v100025 => (Option.bind (delM F v100025 (0 : Int) (1 : Int)) fun
    v100033 => (Option.bind (getI v100033 (IntKind.wrap .i64 (v100013_0 - (1 : Int)))) fun v100067 => (Option.bind (cond p0.clashed (some (true))
    ((Option.bind (cond v100067.other.is_ (some ((v100067.other.n != p2))) (some (false))) fun v48 => some (v48)))) fun v49 => (cond
    (!v100067.other.is_) (Option.bind (cond v49 (some (true)) ((Option.bind (cond v100067.own.is_ (some (true)) (some (false))) fun v78 =>
    (Option.bind (cond v78 (some ((v100067.own.n != p2))) (some (false))) fun v91 => some (v91))))) fun v92 => (cond v92 (some ((T_watch_Watch.mk
    p0.rows (setI v100033 (IntKind.wrap .i64 (v100013_0 - (1 : Int))) (T_watch_entry.mk v100067.f v100067.own (T_watch_sum.mk p2 true))) v92), (14 :
    Int))) (some ((T_watch_Watch.mk p0.rows (setI v100033 (IntKind.wrap .i64 (v100013_0 - (1 : Int))) (T_watch_entry.mk v100067.f v100067.own
    (T_watch_sum.mk p2 true))) v92), (0 : Int))))) (Option.bind (cond v49 (some (true)) ((Option.bind (cond v100067.own.is_ (some (v100067.other.is_))
    (some (false))) fun v78 => (Option.bind (cond v78 (some ((v100067.own.n != v100067.other.n))) (some (false))) fun v91 => some (v91))))) fun v92 =>
    (cond v92 (some ((T_watch_Watch.mk p0.rows v100033 v92), (14 : Int))) (some ((T_watch_Watch.mk p0.rows v100033 v92), (0 : Int))))))))))))))))))

def m_watch_Watch_Other (F : Nat) (p0 : T_watch_Watch) (p1 : Int) (p2 : Int) : Option (T_watch_Watch × Int) :=
  (Option.bind (m_watch_Watch_told_f3_watch_otherSide F p0 p1 p2) fun (o10_0, v10) => some (o10_0, v10))

def m_watch_Watch_Agreed_L14 (F : Nat) (p0 : T_watch_Watch) : Nat → Int → Bool → Int → Option (Int × Bool)
  | 0, _, _, _ => none
  | n + 1, j15_2, j15_3, j15_14 =>
      (cond (decide (j15_14 < (p0.l.length : Int))) (Option.bind (getI p0.l j15_14) fun v16 => (Option.bind (cond v16.own.is_ (some (((v16.own.n ==
        v16.other.n) && (v16.own.is_ == v16.other.is_)))) (some (false))) fun v27 => (cond v27 (m_watch_Watch_Agreed_L14 F p0 n v16.f true
        (IntKind.wrap .i64 (j15_14 + (1 : Int)))) (m_watch_Watch_Agreed_L14 F p0 n j15_2 j15_3 (IntKind.wrap .i64 (j15_14 + (1 : Int))))))) (some
        (j15_2, j15_3)))

def m_watch_Watch_Agreed (F : Nat) (p0 : T_watch_Watch) : Option (Int × Bool) :=
  (Option.bind (m_watch_Watch_is F p0) fun v7 => (cond (!v7) (some ((0 : Int), false)) (Option.bind (m_watch_Watch_Agreed_L14 F p0 F (0 : Int) false
    (0 : Int)) fun (l15_2, l15_3) => some (l15_2, l15_3))))

def m_watch_Watch_Clashed (F : Nat) (p0 : T_watch_Watch) : Option (Bool) :=
  (Option.bind (m_watch_Watch_is F p0) fun v4 => (Option.bind (cond v4 (some (p0.clashed)) (some (false))) fun v10 => some v10))

def m_hindcastlaw29_awake (F : Nat) : Option (Bool) :=
  (Option.bind (m_watch_New F (4 : Int)) fun v4 => poE (some false) (fun v4s => (Option.bind (m_watch_Watch_Own F v4s (4 : Int) (7 : Int)) fun (o9_0,
    v9) => (Option.bind (cond (v9 != (0 : Int)) (some (true, o9_0.rows, o9_0.l, o9_0.clashed)) ((Option.bind (m_watch_Watch_Other F o9_0 (4 : Int) (7
    : Int)) fun (o14_0, v14) => some ((v14 != (0 : Int)), o14_0.rows, o14_0.l, o14_0.clashed)))) fun (v16, g16_n4_0_f0, g16_n4_0_f1, g16_n4_0_f2) =>
    (Option.bind (cond v16 (some (true, g16_n4_0_f0, g16_n4_0_f1, g16_n4_0_f2)) ((Option.bind (m_watch_Watch_Other F (T_watch_Watch.mk g16_n4_0_f0
    g16_n4_0_f1 g16_n4_0_f2) (6 : Int) (1 : Int)) fun (o19_0, v19) => some ((v19 != (2 : Int)), o19_0.rows, o19_0.l, o19_0.clashed)))) fun (v21,
    g21_n4_0_f0, g21_n4_0_f1, g21_n4_0_f2) => (cond v21 (some false) (Option.bind (m_watch_Watch_Agreed F (T_watch_Watch.mk g21_n4_0_f0 g21_n4_0_f1
    g21_n4_0_f2)) fun (v24_0, v24_1) => (Option.bind (cond (v24_0 == (4 : Int)) (some (v24_1)) (some (false))) fun v31 => (Option.bind (cond v31
    ((Option.bind (m_watch_Watch_Other F (T_watch_Watch.mk g21_n4_0_f0 g21_n4_0_f1 g21_n4_0_f2) (8 : Int) (1 : Int)) fun (o34_0, v34) => some ((v34 ==
    (0 : Int)), o34_0.rows, o34_0.l, o34_0.clashed))) (some (false, g21_n4_0_f0, g21_n4_0_f1, g21_n4_0_f2))) fun (v36, g36_n4_0_f0, g36_n4_0_f1,
    g36_n4_0_f2) => (Option.bind (cond v36 ((Option.bind (m_watch_Watch_Own F (T_watch_Watch.mk g36_n4_0_f0 g36_n4_0_f1 g36_n4_0_f2) (8 : Int) (9 :
    Int)) fun (o39_0, v39) => some ((v39 == (14 : Int)), o39_0.rows, o39_0.l, o39_0.clashed))) (some (false, g36_n4_0_f0, g36_n4_0_f1, g36_n4_0_f2)))
    fun (v41, g41_n4_0_f0, g41_n4_0_f1, g41_n4_0_f2) => (Option.bind (cond v41 ((Option.bind (m_watch_Watch_Clashed F (T_watch_Watch.mk g41_n4_0_f0
    g41_n4_0_f1 g41_n4_0_f2)) fun v44 => some (v44))) (some (false))) fun v45 => some v45)))))))))) v4)

def m_hindcastlaw29_WatchFinds_L34 (F : Nat) (p0 : Int) (p2 : (List Int)) : Nat → Int → Int → (List T_watch_entry) → Bool → Int → (List T_watch_entry) → Bool → Option ((Bool × Int × (List T_watch_entry) × Bool × Int × (List T_watch_entry) × Bool) ⊕ (Bool))
  | 0, _, _, _, _, _, _, _ => none
  | n + 1, j35_9, j35_n11_0_f0, j35_n11_0_f1, j35_n11_0_f2, j35_n12_0_f0, j35_n12_0_f1, j35_n12_0_f2 =>
      (cond (decide (j35_9 < (p2.length : Int))) (Option.bind (getI p2 j35_9) fun v55 => (Option.bind (m_watch_Watch_Own F (T_watch_Watch.mk
        j35_n11_0_f0 j35_n11_0_f1 j35_n11_0_f2) (IntKind.wrap .u64 ((IntKind.wrap .u64 ((Int.tmod p0 288230376151711744) * (4 : Int))) + (IntKind.wrap
        .u64 ((4 : Int) * (IntKind.wrap .u64 (IntKind.wrap .i64 (j35_9 + (1 : Int)))))))) v55) fun (o57_0, v57) => (Option.bind (cond (v57 != (0 :
        Int)) (some (true, j35_n12_0_f0, j35_n12_0_f1, j35_n12_0_f2)) ((Option.bind (getI p2 j35_9) fun v69 => (Option.bind (m_watch_Watch_Other F
        (T_watch_Watch.mk j35_n12_0_f0 j35_n12_0_f1 j35_n12_0_f2) (IntKind.wrap .u64 ((IntKind.wrap .u64 ((Int.tmod p0 288230376151711744) * (4 :
        Int))) + (IntKind.wrap .u64 ((4 : Int) * (IntKind.wrap .u64 (IntKind.wrap .i64 (j35_9 + (1 : Int)))))))) v69) fun (o71_0, v71) => some ((v71
        != (0 : Int)), o71_0.rows, o71_0.l, o71_0.clashed))))) fun (v73, g73_n12_0_f0, g73_n12_0_f1, g73_n12_0_f2) => (cond v73 (some (.inr false))
        (m_hindcastlaw29_WatchFinds_L34 F p0 p2 n (IntKind.wrap .i64 (j35_9 + (1 : Int))) o57_0.rows o57_0.l o57_0.clashed g73_n12_0_f0 g73_n12_0_f1
        g73_n12_0_f2))))) (some (.inl (false, j35_n11_0_f0, j35_n11_0_f1, j35_n11_0_f2, j35_n12_0_f0, j35_n12_0_f1, j35_n12_0_f2))))

def m_hindcastlaw29_WatchFinds (F : Nat) (p0 : Int) (p1 : (Int × Int)) (p2 : (List Int)) : Option (Bool) :=
  (Option.bind (m_watch_New F (4 : Int)) fun v11 => poE ((Option.bind (m_watch_New F (4 : Int)) fun v12 => poE (some false) (fun v12s => some false)
    v12)) (fun v11s => (Option.bind (m_watch_New F (4 : Int)) fun v12 => poE (some false) (fun v12s => (cond (decide ((7 : Int) < (p2.length : Int)))
    (Option.bind (m_hindcastlaw29_awake F) fun v22 => some v22) (Option.bind (m_watch_Watch_Own F v11s (IntKind.wrap .u64 ((Int.tmod p0
    288230376151711744) * (4 : Int))) p1.1) fun (o30_0, v30) => (Option.bind (cond (v30 != (0 : Int)) (some (true, v12s.rows, v12s.l, v12s.clashed))
    ((Option.bind (m_watch_Watch_Other F v12s (IntKind.wrap .u64 ((Int.tmod p0 288230376151711744) * (4 : Int))) p1.1) fun (o37_0, v37) => some ((v37
    != (0 : Int)), o37_0.rows, o37_0.l, o37_0.clashed)))) fun (v39, g39_n12_0_f0, g39_n12_0_f1, g39_n12_0_f2) => (cond v39 (some false) (Option.bind
    (m_hindcastlaw29_WatchFinds_L34 F p0 p2 F (0 : Int) o30_0.rows o30_0.l o30_0.clashed g39_n12_0_f0 g39_n12_0_f1 g39_n12_0_f2) (orE (fun (l35_6,
    l35_n11_0_f0, l35_n11_0_f1, l35_n11_0_f2, l35_n12_0_f0, l35_n12_0_f1, l35_n12_0_f2) => (Option.bind (m_watch_Watch_Other F (T_watch_Watch.mk
    l35_n11_0_f0 l35_n11_0_f1 l35_n11_0_f2) (IntKind.wrap .u64 ((Int.tmod p0 288230376151711744) * (4 : Int))) p1.2) fun (o83_0, v83) => (Option.bind
    (cond ((v83 == (14 : Int)) == (p1.1 != p1.2)) ((Option.bind (m_watch_Watch_Other F (T_watch_Watch.mk l35_n12_0_f0 l35_n12_0_f1 l35_n12_0_f2)
    (IntKind.wrap .u64 ((Int.tmod p0 288230376151711744) * (4 : Int))) p1.2) fun (o92_0, v92) => some (((v92 == (14 : Int)) == (p1.1 != p1.2)),
    o92_0.rows, o92_0.l, o92_0.clashed))) (some (false, l35_n12_0_f0, l35_n12_0_f1, l35_n12_0_f2))) fun (v96, g96_n12_0_f0, g96_n12_0_f1,
    g96_n12_0_f2) => (Option.bind (cond v96 ((Option.bind (m_hindcastlaw29_awake F) fun v98 => some (v98))) (some (false))) fun v99 => some v99))))
    (fun r35 => some r35)))))))) v12)) v11)

end Go.Proofs.Ythlnellnlhkphaa
