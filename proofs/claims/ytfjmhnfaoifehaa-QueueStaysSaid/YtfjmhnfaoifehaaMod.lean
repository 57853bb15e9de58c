/-
  Models of the functions of the chapter: what each computes, as a Lean function (none: it is not said). Printed by a program of this claim's own.
-/
import Derived.Test.YtfjmhnfaoifehaaEng2
namespace Go.Proofs.Ytfjmhnfaoifehaa
open Go.Proofs.Ytfjmhnfaoifehaa.Eng
set_option linter.unusedVariables false
set_option linter.unusedSimpArgs false

structure T_hindcastlaw24_Act where
  What : Int
  F : Int
  Ask : Int
  I : Int
  N : Int
theorem T_hindcastlaw24_Act.eta (x : T_hindcastlaw24_Act) : T_hindcastlaw24_Act.mk x.What x.F x.Ask x.I x.N = x := rfl

def c_T_hindcastlaw24_Act (x : T_hindcastlaw24_Act) : List Value := [.int .u8 x.What, .int .u64 x.F, .int .u64 x.Ask, .int .u8 x.I, .int .i64 x.N]
theorem c_T_hindcastlaw24_Act_len (x : T_hindcastlaw24_Act) : (c_T_hindcastlaw24_Act x).length = 5 := rfl

structure T_queue_Queue where
  first_ : Int
  l : (List Int)
  last : Int
theorem T_queue_Queue.eta (x : T_queue_Queue) : T_queue_Queue.mk x.first_ x.l x.last = x := rfl

structure T_hindcastref24_Queue where
  Begin : Int
  First : Int
  L : (List Int)
theorem T_hindcastref24_Queue.eta (x : T_hindcastref24_Queue) : T_hindcastref24_Queue.mk x.Begin x.First x.L = x := rfl

def m_queue_New (F : Nat) (p0 : Int) : Option (T_queue_Queue) :=
  some (T_queue_Queue.mk p0 ([] : List Int) (0 : Int))

def m_hindcastref24_New (F : Nat) (p0 : Int) : Option (T_hindcastref24_Queue) :=
  some (T_hindcastref24_Queue.mk p0 p0 ([] : List Int))

def m_input_Legal (F : Nat) (p0 : Int) : Option (Bool) :=
  some (decide (p0 < (64 : Int)))

def m_queue_Queue_Known (F : Nat) (p0 : T_queue_Queue) : Option (Int) :=
  some (IntKind.wrap .u64 (p0.first_ + (IntKind.wrap .u64 (p0.l.length : Int))))

def m_queue_Queue_from (F : Nat) (p0 : T_queue_Queue) (p1 : Int) : Option ((List Int)) :=
  (Option.bind (cond (decide (p1 < p0.first_)) (some (true)) ((Option.bind (m_queue_Queue_Known F p0) fun v18 => some ((decide (v18 ≤ p1)))))) fun v20
    => (cond v20 (some ([] : List Int)) (Option.bind (cut3I p0.l (IntKind.wrap .u64 (p1 - p0.first_)) (p0.l.length : Int) (p0.l.length : Int)) fun v41
    => some v41)))

def m_queue_Queue_At (F : Nat) (p0 : T_queue_Queue) (p1 : Int) : Option (Int × Bool) :=
  (Option.bind (m_queue_Queue_from F p0 p1) fun v9 => (cond (decide ((0 : Int) < (v9.length : Int))) (Option.bind (getI v9 (0 : Int)) fun v14 => some
    (v14, true)) (some ((0 : Int), false))))

def m_queue_Queue_Add (F : Nat) (p0 : T_queue_Queue) (p1 : Int) (p2 : Int) : Option (T_queue_Queue × Int) :=
  (Option.bind (m_input_Legal F p2) fun v14 => (cond (!v14) (some (p0, (2 : Int))) (cond (decide (p1 < p0.first_)) (some (p0, (0 : Int))) (Option.bind
    (m_queue_Queue_At F p0 p1) fun (v26_0, v26_1) => (Option.bind (cond v26_1 (some ((v26_0 != p2))) (some (false))) fun v35 => (cond v35 (some (p0,
    (14 : Int))) (cond v26_1 (some (p0, (0 : Int))) (Option.bind (m_queue_Queue_Known F p0) fun v41 => (Option.bind (cond (decide (v41 < p1)) (some
    (true)) (some ((p1 == (18446744073709551615 : Int))))) fun v46 => (cond v46 (some (p0, (11 : Int))) (cond (decide ((24 : Int) ≤ (p0.l.length :
    Int))) (some (p0, (7 : Int))) (Option.bind (appI p0.l ([p2] : List Int)) fun v62 => some ((T_queue_Queue.mk p0.first_ v62 p2), (0 :
    Int))))))))))))))

def m_hindcastlaw24_at (F : Nat) (p0 : T_queue_Queue) (p1 : Int) (p2 : Int) : Option (Bool) :=
  (Option.bind (m_queue_Queue_At F p0 p1) fun (v12_0, v12_1) => (Option.bind (cond v12_1 (some ((v12_0 == p2))) (some (false))) fun v20 => some v20))

def m_queue_Queue_Guess (F : Nat) (p0 : T_queue_Queue) (p1 : Int) : Option (Int) :=
  (Option.bind (m_queue_Queue_At F p0 p1) fun (v10_0, v10_1) => (Option.bind (cond v10_1 (some (true)) (some (false))) fun v17 => (cond v17 (some
    v10_0) (some p0.last))))

def m_hindcastlaw24_no (F : Nat) (p0 : T_queue_Queue) (p1 : Int) : Option (Bool) :=
  (Option.bind (m_queue_Queue_At F p0 p1) fun (v10_0, v10_1) => (Option.bind (cond (!v10_1) (some ((v10_0 == (0 : Int)))) (some (false))) fun v18 =>
    some v18))

def m_hindcastlaw24_works (F : Nat) : Option (Bool) :=
  (Option.bind (m_queue_New F (5 : Int)) fun v2 => (Option.bind (m_queue_Queue_Add F v2 (5 : Int) (7 : Int)) fun (o7_0, v7) => (Option.bind (cond (v7
    == (0 : Int)) ((Option.bind (m_queue_Queue_Add F o7_0 (5 : Int) (8 : Int)) fun (o12_0, v12) => some ((v12 == (14 : Int)), o12_0.first_, o12_0.l,
    o12_0.last))) (some (false, o7_0.first_, o7_0.l, o7_0.last))) fun (v14, g14_n2_0_f0, g14_n2_0_f1, g14_n2_0_f2) => (Option.bind (cond v14
    ((Option.bind (m_queue_Queue_Known F (T_queue_Queue.mk g14_n2_0_f0 g14_n2_0_f1 g14_n2_0_f2)) fun v17 => some ((v17 == (6 : Int))))) (some
    (false))) fun v19 => (Option.bind (cond v19 ((Option.bind (m_hindcastlaw24_at F (T_queue_Queue.mk g14_n2_0_f0 g14_n2_0_f1 g14_n2_0_f2) (5 : Int)
    (7 : Int)) fun v22 => some (v22))) (some (false))) fun v23 => (Option.bind (cond v23 ((Option.bind (m_queue_Queue_Guess F (T_queue_Queue.mk
    g14_n2_0_f0 g14_n2_0_f1 g14_n2_0_f2) (6 : Int)) fun v26 => some ((v26 == (7 : Int))))) (some (false))) fun v28 => (Option.bind (cond v28
    ((Option.bind (m_hindcastlaw24_no F (T_queue_Queue.mk g14_n2_0_f0 g14_n2_0_f1 g14_n2_0_f2) (6 : Int)) fun v31 => some (v31))) (some (false))) fun
    v32 => some v32)))))))

def m_hindcastref24_Queue_Known (F : Nat) (p0 : T_hindcastref24_Queue) : Option (Int) :=
  some (IntKind.wrap .u64 (p0.Begin + (IntKind.wrap .u64 (p0.L.length : Int))))

def m_hindcastref24_Queue_At (F : Nat) (p0 : T_hindcastref24_Queue) (p1 : Int) : Option (Int × Bool) :=
  (Option.bind (cond (decide (p1 < p0.First)) (some (true)) ((Option.bind (m_hindcastref24_Queue_Known F p0) fun v15 => some ((decide (v15 ≤ p1))))))
    fun v17 => (cond v17 (some ((0 : Int), false)) (Option.bind (getI p0.L (IntKind.wrap .u64 (p1 - p0.Begin))) fun v28 => some (v28, true))))

def m_hindcastref24_Queue_Add (F : Nat) (p0 : T_hindcastref24_Queue) (p1 : Int) (p2 : Int) : Option (T_hindcastref24_Queue × Int) :=
  (cond (decide ((64 : Int) ≤ p2)) (some (p0, (2 : Int))) (cond (decide (p1 < p0.First)) (some (p0, (0 : Int))) (Option.bind (m_hindcastref24_Queue_At
    F p0 p1) fun (v20_0, v20_1) => (Option.bind (cond v20_1 (some ((v20_0 != p2))) (some (false))) fun v28 => (cond v28 (some (p0, (14 : Int))) (cond
    v20_1 (some (p0, (0 : Int))) (Option.bind (m_hindcastref24_Queue_Known F p0) fun v32 => (Option.bind (cond (p1 != v32) (some (true)) (some ((p1 ==
    (18446744073709551615 : Int))))) fun v37 => (cond v37 (some (p0, (11 : Int))) (Option.bind (m_hindcastref24_Queue_Known F p0) fun v39 => (cond
    (decide ((24 : Int) ≤ (IntKind.wrap .u64 (v39 - p0.First)))) (some (p0, (7 : Int))) (Option.bind (appI p0.L ([p2] : List Int)) fun v53 => some
    ((T_hindcastref24_Queue.mk p0.Begin p0.First v53), (0 : Int))))))))))))))

def m_queue_Queue_First (F : Nat) (p0 : T_queue_Queue) : Option (Int) :=
  some p0.first_

def m_hindcastref24_Queue_Guess (F : Nat) (p0 : T_hindcastref24_Queue) (p1 : Int) : Option (Int) :=
  (Option.bind (m_hindcastref24_Queue_At F p0 p1) fun (v10_0, v10_1) => (cond v10_1 (some v10_0) (cond ((p0.L.length : Int) == (0 : Int)) (some (0 :
    Int)) (Option.bind (getI p0.L (IntKind.wrap .i64 ((p0.L.length : Int) - (1 : Int)))) fun v31 => some v31))))

def m_queue_Queue_Slice (F : Nat) (p0 : T_queue_Queue) (p1 : Int) (p2 : Int) : Option ((List Int)) :=
  (Option.bind (m_queue_Queue_from F p0 p1) fun v10 => (Option.bind (cutI v10 0 (max (0 : Int) (min p2 (v10.length : Int)))) fun v17 => (Option.bind
    (appI ([] : List Int) v17) fun v18 => some v18)))

def m_hindcastref24_Queue_Slice_L6 (F : Nat) (p0 : T_hindcastref24_Queue) (p2 : Int) : Nat → Int → (List Int) → Option ((List Int))
  | 0, _, _ => none
  | n + 1, j7_1, j7_7 =>
      (cond (decide ((j7_7.length : Int) < p2)) (Option.bind (m_hindcastref24_Queue_At F p0 j7_1) fun (v17_0, v17_1) => (cond (!v17_1) (some j7_7)
        (Option.bind (appI j7_7 ([v17_0] : List Int)) fun v25 => m_hindcastref24_Queue_Slice_L6 F p0 p2 n (IntKind.wrap .u64 (j7_1 + (1 : Int)))
        v25))) (some j7_7))

def m_hindcastref24_Queue_Slice (F : Nat) (p0 : T_hindcastref24_Queue) (p1 : Int) (p2 : Int) : Option ((List Int)) :=
  (Option.bind (m_hindcastref24_Queue_Slice_L6 F p0 p2 F p1 ([] : List Int)) fun l7_7 => some l7_7)

def m_hindcastref06_Same_L14 (F : Nat) (p0 : (List Int)) (p1 : (List Int)) : Nat → Int → Option ((Bool) ⊕ (Bool))
  | 0, _ => none
  | n + 1, j15_5 =>
      (cond (decide (j15_5 < (p0.length : Int))) (Option.bind (getI p0 j15_5) fun v19 => (Option.bind (getI p1 j15_5) fun v23 => (cond (v19 != v23)
        (some (.inr false)) (m_hindcastref06_Same_L14 F p0 p1 n (IntKind.wrap .i64 (j15_5 + (1 : Int))))))) (some (.inl false)))

def m_hindcastref06_Same (F : Nat) (p0 : (List Int)) (p1 : (List Int)) : Option (Bool) :=
  (cond ((p0.length : Int) != (p1.length : Int)) (some false) (Option.bind (m_hindcastref06_Same_L14 F p0 p1 F (0 : Int)) (orE (fun l15_4 => some
    true) (fun r15 => some r15))))

def m_queue_Queue_Drop (F : Nat) (p0 : T_queue_Queue) (p1 : Int) : Option (T_queue_Queue) :=
  (cond (decide (p1 ≤ p0.first_)) (some p0) (Option.bind (m_queue_Queue_Known F p0) fun v17 => (Option.bind (cutI p0.l (IntKind.wrap .u64 ((min p1
    v17) - p0.first_)) (p0.l.length : Int)) fun v33 => (Option.bind (cutI (copyL p0.l v33) 0 ((min v33.length p0.l.length : Nat) : Int)) fun v42 =>
    some (T_queue_Queue.mk (min p1 v17) v42 p0.last)))))

def m_hindcastref24_Queue_Drop (F : Nat) (p0 : T_hindcastref24_Queue) (p1 : Int) : Option (T_hindcastref24_Queue) :=
  (Option.bind (m_hindcastref24_Queue_Known F p0) fun v6 => (Option.bind ((cond (decide (v6 < p1)) (Option.bind (m_hindcastref24_Queue_Known F p0) fun
    v9 => some v9) (some p1))) fun j4_1 => (cond (decide (p0.First < j4_1)) (some (T_hindcastref24_Queue.mk p0.Begin j4_1 p0.L)) (some p0))))

def m_hindcastlaw24_QueuePlays_L26 (F : Nat) (p1 : (List T_hindcastlaw24_Act)) : Nat → Int → Int → (List Int) → Int → Int → Int → (List Int) → Option ((Bool × Int × (List Int) × Int × Int × Int × (List Int)) ⊕ (Bool))
  | 0, _, _, _, _, _, _, _ => none
  | n + 1, j27_7, j27_n14_0_f0, j27_n14_0_f1, j27_n14_0_f2, j27_n16_0_f0, j27_n16_0_f1, j27_n16_0_f2 =>
      (cond (decide (j27_7 < (p1.length : Int))) (Option.bind (getI p1 j27_7) fun v31 => (cond (decide ((Int.tmod v31.What 4) < (3 : Int)))
        (Option.bind (m_queue_Queue_Add F (T_queue_Queue.mk j27_n14_0_f0 j27_n14_0_f1 j27_n14_0_f2) v31.F v31.I) fun (o42_0, v42) => (Option.bind
        (m_hindcastref24_Queue_Add F (T_hindcastref24_Queue.mk j27_n16_0_f0 j27_n16_0_f1 j27_n16_0_f2) v31.F v31.I) fun (o48_0, v48) => (cond (v42 !=
        v48) (some (.inr false)) (Option.bind (m_queue_Queue_At F o42_0 v31.Ask) fun (v62_0, v62_1) => (Option.bind (m_hindcastref24_Queue_At F o48_0
        v31.Ask) fun (v69_0, v69_1) => (Option.bind (cond (v62_0 != v69_0) (some (true)) (some ((v62_1 != v69_1)))) fun v79 => (Option.bind (cond v79
        (some (true)) ((Option.bind (m_queue_Queue_First F o42_0) fun v82 => some ((v82 != o48_0.First))))) fun v88 => (Option.bind (cond v88 (some
        (true)) ((Option.bind (m_queue_Queue_Known F o42_0) fun v91 => (Option.bind (m_hindcastref24_Queue_Known F o48_0) fun v93 => some ((v91 !=
        v93)))))) fun v95 => (Option.bind (cond v95 (some (true)) ((Option.bind (m_queue_Queue_Guess F o42_0 v31.Ask) fun v100 => (Option.bind
        (m_hindcastref24_Queue_Guess F o48_0 v31.Ask) fun v104 => some ((v100 != v104)))))) fun v106 => (Option.bind (cond v106 (some (true))
        ((Option.bind (m_queue_Queue_Slice F o42_0 v31.Ask v31.N) fun v113 => (Option.bind (m_hindcastref24_Queue_Slice F o48_0 v31.Ask v31.N) fun
        v119 => (Option.bind (m_hindcastref06_Same F v113 v119) fun v120 => some ((!v120))))))) fun v122 => (cond v122 (some (.inr false))
        (m_hindcastlaw24_QueuePlays_L26 F p1 n (IntKind.wrap .i64 (j27_7 + (1 : Int))) o42_0.first_ o42_0.l o42_0.last o48_0.Begin o48_0.First
        o48_0.L)))))))))))) (Option.bind (m_queue_Queue_Drop F (T_queue_Queue.mk j27_n14_0_f0 j27_n14_0_f1 j27_n14_0_f2) v31.F) fun o53_0 =>
        (Option.bind (m_hindcastref24_Queue_Drop F (T_hindcastref24_Queue.mk j27_n16_0_f0 j27_n16_0_f1 j27_n16_0_f2) v31.F) fun o57_0 => (Option.bind
        (m_queue_Queue_At F o53_0 v31.Ask) fun (v62_0, v62_1) => (Option.bind (m_hindcastref24_Queue_At F o57_0 v31.Ask) fun (v69_0, v69_1) =>
        (Option.bind (cond (v62_0 != v69_0) (some (true)) (some ((v62_1 != v69_1)))) fun v79 => (Option.bind (cond v79 (some (true)) ((Option.bind
        (m_queue_Queue_First F o53_0) fun v82 => some ((v82 != o57_0.First))))) fun v88 => (Option.bind (cond v88 (some (true)) ((Option.bind
        (m_queue_Queue_Known F o53_0) fun v91 => (Option.bind (m_hindcastref24_Queue_Known F o57_0) fun v93 => some ((v91 != v93)))))) fun v95 =>
        (Option.bind (cond v95 (some (true)) ((Option.bind (m_queue_Queue_Guess F o53_0 v31.Ask) fun v100 => (Option.bind (m_hindcastref24_Queue_Guess
        F o57_0 v31.Ask) fun v104 => some ((v100 != v104)))))) fun v106 => (Option.bind (cond v106 (some (true)) ((Option.bind (m_queue_Queue_Slice F
        o53_0 v31.Ask v31.N) fun v113 => (Option.bind (m_hindcastref24_Queue_Slice F o57_0 v31.Ask v31.N) fun v119 => (Option.bind
        (m_hindcastref06_Same F v113 v119) fun v120 => some ((!v120))))))) fun v122 => (cond v122 (some (.inr false)) (m_hindcastlaw24_QueuePlays_L26
        F p1 n (IntKind.wrap .i64 (j27_7 + (1 : Int))) o53_0.first_ o53_0.l o53_0.last o57_0.Begin o57_0.First o57_0.L))))))))))))) (some (.inl
        (false, j27_n14_0_f0, j27_n14_0_f1, j27_n14_0_f2, j27_n16_0_f0, j27_n16_0_f1, j27_n16_0_f2))))

def m_hindcastlaw24_QueuePlays (F : Nat) (p0 : Int) (p1 : (List T_hindcastlaw24_Act)) : Option (Bool) :=
  (Option.bind (m_queue_New F p0) fun v14 => (Option.bind (m_hindcastref24_New F p0) fun v16 => (cond (decide ((200 : Int) < (p1.length : Int)))
    (Option.bind (m_hindcastlaw24_works F) fun v22 => some v22) (Option.bind (m_hindcastlaw24_QueuePlays_L26 F p1 F (0 : Int) v14.first_ v14.l
    v14.last v16.Begin v16.First v16.L) (orE (fun (l27_4, l27_n14_0_f0, l27_n14_0_f1, l27_n14_0_f2, l27_n16_0_f0, l27_n16_0_f1, l27_n16_0_f2) =>
    (Option.bind (m_hindcastlaw24_works F) fun v123 => some v123)) (fun r27 => some r27))))))

def m_hindcastlaw24_QueueStays_L67 (F : Nat) (v34 : Int) (v36 : Int) (v39 : (List Int)) (j51_n16_0_f0 : Int) (j51_n16_0_f1 : (List Int)) (j51_n16_0_f2 : Int) : Nat → Int → (List Int) → Option ((Bool) ⊕ (Bool))
  | 0, _, _ => none
  | n + 1, j68_12, j68_11 =>
      (cond (decide (j68_12 < (j68_11.length : Int))) (Option.bind (m_queue_Queue_First F (T_queue_Queue.mk j51_n16_0_f0 j51_n16_0_f1 j51_n16_0_f2))
        fun v94 => (Option.bind (cond (decide ((IntKind.wrap .u64 (v94 + (IntKind.wrap .u64 j68_12))) < v36)) ((Option.bind (getI j68_11 j68_12) fun
        v104 => (Option.bind (getI v39 (IntKind.wrap .u64 ((IntKind.wrap .u64 (v94 + (IntKind.wrap .u64 j68_12))) - v34))) fun v110 => some ((v104 !=
        v110))))) (some (false))) fun v113 => (cond v113 (some (.inr false)) (Option.bind (getI j68_11 j68_12) fun v116 =>
        m_hindcastlaw24_QueueStays_L67 F v34 v36 v39 j51_n16_0_f0 j51_n16_0_f1 j51_n16_0_f2 n (IntKind.wrap .i64 (j68_12 + (1 : Int))) (setI j68_11
        j68_12 (99 : Int)))))) (some (.inl false)))

def m_hindcastlaw24_QueueStays_L91 (F : Nat) (v34 : Int) (v36 : Int) (v39 : (List Int)) (j51_n16_0_f0 : Int) (j51_n16_0_f1 : (List Int)) (j51_n16_0_f2 : Int) (l68_4 : Bool) : Nat → Int → Option ((Bool) ⊕ (Bool))
  | 0, _ => none
  | n + 1, j92_14 =>
      (cond (decide (j92_14 < v36)) (Option.bind (getI v39 (IntKind.wrap .u64 (j92_14 - v34))) fun v130 => (Option.bind (m_hindcastlaw24_at F
        (T_queue_Queue.mk j51_n16_0_f0 j51_n16_0_f1 j51_n16_0_f2) j92_14 v130) fun v132 => (cond (!v132) (some (.inr false))
        (m_hindcastlaw24_QueueStays_L91 F v34 v36 v39 j51_n16_0_f0 j51_n16_0_f1 j51_n16_0_f2 l68_4 n (IntKind.wrap .u64 (j92_14 + (1 : Int)))))))
        (some (.inl l68_4)))

def m_hindcastlaw24_QueueStays_L24 (F : Nat) (p1 : (List T_hindcastlaw24_Act)) : Nat → Int → Int → (List Int) → Int → Option ((Bool × Int × (List Int) × Int) ⊕ (Bool))
  | 0, _, _, _, _ => none
  | n + 1, j25_6, j25_n16_0_f0, j25_n16_0_f1, j25_n16_0_f2 =>
      (cond (decide (j25_6 < (p1.length : Int))) (Option.bind (getI p1 j25_6) fun v31 => (Option.bind (m_queue_Queue_First F (T_queue_Queue.mk
        j25_n16_0_f0 j25_n16_0_f1 j25_n16_0_f2)) fun v34 => (Option.bind (m_queue_Queue_Known F (T_queue_Queue.mk j25_n16_0_f0 j25_n16_0_f1
        j25_n16_0_f2)) fun v36 => (Option.bind (m_queue_Queue_Slice F (T_queue_Queue.mk j25_n16_0_f0 j25_n16_0_f1 j25_n16_0_f2) v34 (1000 : Int)) fun
        v39 => (Option.bind (cond ((IntKind.wrap .u64 (v39.length : Int)) != (IntKind.wrap .u64 (v36 - v34))) (some (true)) (some ((decide ((24 : Int)
        < (v39.length : Int)))))) fun v51 => (cond v51 (some (.inr false)) (Option.bind ((cond (decide ((Int.tmod v31.What 4) < (3 : Int)))
        (Option.bind (m_queue_Queue_Add F (T_queue_Queue.mk j25_n16_0_f0 j25_n16_0_f1 j25_n16_0_f2) v31.F v31.I) fun (o61_0, v61) => some
        (o61_0.first_, o61_0.l, o61_0.last)) (Option.bind (m_queue_Queue_Drop F (T_queue_Queue.mk j25_n16_0_f0 j25_n16_0_f1 j25_n16_0_f2) v31.F) fun
        o65_0 => some (o65_0.first_, o65_0.l, o65_0.last)))) fun (j51_n16_0_f0, j51_n16_0_f1, j51_n16_0_f2) => (Option.bind (m_queue_Queue_Known F
        (T_queue_Queue.mk j51_n16_0_f0 j51_n16_0_f1 j51_n16_0_f2)) fun v67 => (Option.bind (cond (decide (v67 < v36)) (some (true)) ((Option.bind
        (m_queue_Queue_First F (T_queue_Queue.mk j51_n16_0_f0 j51_n16_0_f1 j51_n16_0_f2)) fun v72 => some ((decide (v72 < v34)))))) fun v75 =>
        (Option.bind (cond v75 (some (true)) ((Option.bind (m_queue_Queue_First F (T_queue_Queue.mk j51_n16_0_f0 j51_n16_0_f1 j51_n16_0_f2)) fun v78
        => (Option.bind (m_queue_Queue_Known F (T_queue_Queue.mk j51_n16_0_f0 j51_n16_0_f1 j51_n16_0_f2)) fun v80 => some ((decide (v80 < v78)))))))
        fun v82 => (cond v82 (some (.inr false)) (Option.bind (m_queue_Queue_First F (T_queue_Queue.mk j51_n16_0_f0 j51_n16_0_f1 j51_n16_0_f2)) fun
        v85 => (Option.bind (m_queue_Queue_Slice F (T_queue_Queue.mk j51_n16_0_f0 j51_n16_0_f1 j51_n16_0_f2) v85 (1000 : Int)) fun v86 => (Option.bind
        (m_hindcastlaw24_QueueStays_L67 F v34 v36 v39 j51_n16_0_f0 j51_n16_0_f1 j51_n16_0_f2 F (0 : Int) v86) (orE (fun l68_4 => (Option.bind
        (m_queue_Queue_First F (T_queue_Queue.mk j51_n16_0_f0 j51_n16_0_f1 j51_n16_0_f2)) fun v118 => (Option.bind (m_hindcastlaw24_QueueStays_L91 F
        v34 v36 v39 j51_n16_0_f0 j51_n16_0_f1 j51_n16_0_f2 l68_4 F v118) (orE (fun l92_4 => m_hindcastlaw24_QueueStays_L24 F p1 n (IntKind.wrap .i64
        (j25_6 + (1 : Int))) j51_n16_0_f0 j51_n16_0_f1 j51_n16_0_f2) (fun r92 => some (.inr r92)))))) (fun r68 => some (.inr r68)))))))))))))))))
        (some (.inl (false, j25_n16_0_f0, j25_n16_0_f1, j25_n16_0_f2))))

def m_hindcastlaw24_QueueStays (F : Nat) (p0 : Int) (p1 : (List T_hindcastlaw24_Act)) : Option (Bool) :=
  (Option.bind (m_queue_New F p0) fun v16 => (cond (decide ((200 : Int) < (p1.length : Int))) (Option.bind (m_hindcastlaw24_works F) fun v22 => some
    v22) (Option.bind (m_hindcastlaw24_QueueStays_L24 F p1 F (0 : Int) v16.first_ v16.l v16.last) (orE (fun (l25_4, l25_n16_0_f0, l25_n16_0_f1,
    l25_n16_0_f2) => (Option.bind (m_hindcastlaw24_works F) fun v134 => some v134)) (fun r25 => some r25)))))

end Go.Proofs.Ytfjmhnfaoifehaa
