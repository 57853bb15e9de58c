/-
  Models of the functions of the chapter: what each computes, as a Lean function (none: it is not said). Printed by a program of this claim's own.
-/
import Derived.Test.YtfjmhnfaoifehaaEng2
namespace Go.Proofs.Ytfjmhnfaoifehaa
open Go.Proofs.Ytfjmhnfaoifehaa.Eng
set_option linter.unusedVariables false
set_option linter.unusedSimpArgs false

structure T_hindcastlaw24_Act where
  What : Int
  F : Int
  Ask : Int
  I : Int
  N : Int
theorem T_hindcastlaw24_Act.eta (x : T_hindcastlaw24_Act) : T_hindcastlaw24_Act.mk x.What x.F x.Ask x.I x.N = x := rfl

def c_T_hindcastlaw24_Act (x : T_hindcastlaw24_Act) : List Value := [.int .u8 x.What, .int .u64 x.F, .int .u64 x.Ask, .int .u8 x.I, .int .i64 x.N]
theorem c_T_hindcastlaw24_Act_len (x : T_hindcastlaw24_Act) : (c_T_hindcastlaw24_Act x).length = 5 := rfl

structure T_queue_Queue where
  first_ : Int
  l : (List Int)
  last : Int
theorem T_queue_Queue.eta (x : T_queue_Queue) : T_queue_Queue.mk x.first_ x.l x.last = x := rfl

structure T_hindcastref24_Queue where
  Begin : Int
  First : Int
  L : (List Int)
theorem T_hindcastref24_Queue.eta (x : T_hindcastref24_Queue) : T_hindcastref24_Queue.mk x.Begin x.First x.L = x := rfl

def m_queue_New (F : Nat) (p0 : Int) : Option (T_queue_Queue) :=
  some (T_queue_Queue.mk p0 ([] : List Int) (0 : Int))

def m_hindcastref24_New (F : Nat) (p0 : Int) : Option (T_hindcastref24_Queue) :=
  some (T_hindcastref24_Queue.mk p0 p0 ([] : List Int))

def m_input_Legal (F : Nat) (p0 : Int) : Option (Bool) :=
  some (decide (p0 < (64 : Int)))

def m_queue_Queue_Known (F : Nat) (p0 : T_queue_Queue) : Option (Int) :=
  some (IntKind.wrap .u64 (p0.first_ + (IntKind.wrap .u64 (p0.l.length : Int))))

def m_queue_Queue_from (F : Nat) (p0 : T_queue_Queue) (p1 : Int) : Option ((List Int)) :=
  (Option.bind (cond (decide (p1 < p0.first_)) (some (true)) ((Option.bind (m_queue_Queue_Known F p0) fun v18 => some ((decide (v18 ≤ p1)))))) fun v20
    => (cond v20 (some ([] : List Int)) (Option.bind (cut3I p0.l (IntKind.wrap .u64 (p1 - p0.first_)) (p0.l.length : Int) (p0.l.length : Int)) fun v41
    => some v41)))

def m_queue_Queue_At (F : Nat) (p0 : T_queue_Queue) (p1 : Int) : Option (Int × Bool) :=
  (Option.bind (m_queue_Queue_from F p0 p1) fun v9 => (cond (decide ((0 : Int) < (v9.length : Int))) (Option.bind (getI v9 (0 : Int)) fun v14 => some
    (v14, true)) (some ((0 : Int), false))))

def m_queue_Queue_Add (F : Nat) (p0 : T_queue_Queue) (p1 : Int) (p2 : Int) : Option (T_queue_Queue × Int) :=
  (Option.bind (m_input_Legal F p2) fun v14 => (cond (!v14) (some (p0, (2 : Int))) (cond (decide (p1 < p0.first_)) (some (p0, (0 : Int))) (Option.bind
    (m_queue_Queue_At F p0 p1) fun (v26_0, v26_1) => (Option.bind (cond v26_1 (some ((v26_0 != p2))) (some (false))) fun v35 => (cond v35 (some (p0,
    (14 : Int))) (cond v26_1 (some (p0, (0 : Int))) (Option.bind (m_queue_Queue_Known F p0) fun v41 => (Option.bind (cond (decide (v41 < p1)) (some
    (true)) (some ((p1 == (18446744073709551615 : Int))))) fun v46 => (cond v46 (some (p0, (11 : Int))) (cond (decide ((24 : Int) ≤ (p0.l.length :
    Int))) (some (p0, (7 : Int))) (Option.bind (appI p0.l ([p2] : List Int)) fun v62 => some ((T_queue_Queue.mk p0.first_ v62 p2), (0 :
    Int))))))))))))))

def m_hindcastlaw24_at (F : Nat) (p0 : T_queue_Queue) (p1 : Int) (p2 : Int) : Option (Bool) :=
  (Option.bind (m_queue_Queue_At F p0 p1) fun (v12_0, v12_1) => (Option.bind (cond v12_1 (some ((v12_0 == p2))) (some (false))) fun v20 => some v20))

def m_queue_Queue_Guess (F : Nat) (p0 : T_queue_Queue) (p1 : Int) : Option (Int) :=
  (Option.bind (m_queue_Queue_At F p0 p1) fun (v10_0, v10_1) => (Option.bind (cond v10_1 (some (true)) (some (false))) fun v17 => (cond v17 (some
    v10_0) (some p0.last))))

def m_hindcastlaw24_no (F : Nat) (p0 : T_queue_Queue) (p1 : Int) : Option (Bool) :=
  (Option.bind (m_queue_Queue_At F p0 p1) fun (v10_0, v10_1) => (Option.bind (cond (!v10_1) (some ((v10_0 == (0 : Int)))) (some (false))) fun v18 =>
    some v18))

def m_hindcastlaw24_works (F : Nat) : Option (Bool) :=
  (Option.bind (m_queue_New F (5 : Int)) fun v2 => (Option.bind (m_queue_Queue_Add F v2 (5 : Int) (7 : Int)) fun (o7_0, v7) => (Option.bind (cond (v7
    == (0 : Int)) ((Option.bind (m_queue_Queue_Add F o7_0 (5 : Int) (8 : Int)) fun (o12_0, v12) => some ((v12 == (14 : Int)), o12_0))) (some (false,
    o7_0))) fun (v14, g14_n2_0) => (Option.bind (cond v14 ((Option.bind (m_queue_Queue_Known F g14_n2_0) fun v17 => some ((v17 == (6 : Int))))) (some
    (false))) fun v19 => (Option.bind (cond v19 ((Option.bind (m_hindcastlaw24_at F g14_n2_0 (5 : Int) (7 : Int)) fun v22 => some (v22))) (some
    (false))) fun v23 => (Option.bind (cond v23 ((Option.bind (m_queue_Queue_Guess F g14_n2_0 (6 : Int)) fun v26 => some ((v26 == (7 : Int))))) (some
    (false))) fun v28 => (Option.bind (cond v28 ((Option.bind (m_hindcastlaw24_no F g14_n2_0 (6 : Int)) fun v31 => some (v31))) (some (false))) fun
    v32 => some v32)))))))

def m_hindcastref24_Queue_Known (F : Nat) (p0 : T_hindcastref24_Queue) : Option (Int) :=
  some (IntKind.wrap .u64 (p0.Begin + (IntKind.wrap .u64 (p0.L.length : Int))))

def m_hindcastref24_Queue_At (F : Nat) (p0 : T_hindcastref24_Queue) (p1 : Int) : Option (Int × Bool) :=
  (Option.bind (cond (decide (p1 < p0.First)) (some (true)) ((Option.bind (m_hindcastref24_Queue_Known F p0) fun v15 => some ((decide (v15 ≤ p1))))))
    fun v17 => (cond v17 (some ((0 : Int), false)) (Option.bind (getI p0.L (IntKind.wrap .u64 (p1 - p0.Begin))) fun v28 => some (v28, true))))

def m_hindcastref24_Queue_Add (F : Nat) (p0 : T_hindcastref24_Queue) (p1 : Int) (p2 : Int) : Option (T_hindcastref24_Queue × Int) :=
  (cond (decide ((64 : Int) ≤ p2)) (some (p0, (2 : Int))) (cond (decide (p1 < p0.First)) (some (p0, (0 : Int))) (Option.bind (m_hindcastref24_Queue_At
    F p0 p1) fun (v20_0, v20_1) => (Option.bind (cond v20_1 (some ((v20_0 != p2))) (some (false))) fun v28 => (cond v28 (some (p0, (14 : Int))) (cond
    v20_1 (some (p0, (0 : Int))) (Option.bind (m_hindcastref24_Queue_Known F p0) fun v32 => (Option.bind (cond (p1 != v32) (some (true)) (some ((p1 ==
    (18446744073709551615 : Int))))) fun v37 => (cond v37 (some (p0, (11 : Int))) (Option.bind (m_hindcastref24_Queue_Known F p0) fun v39 => (cond
    (decide ((24 : Int) ≤ (IntKind.wrap .u64 (v39 - p0.First)))) (some (p0, (7 : Int))) (Option.bind (appI p0.L ([p2] : List Int)) fun v53 => some
    ((T_hindcastref24_Queue.mk p0.Begin p0.First v53), (0 : Int))))))))))))))

def m_queue_Queue_First (F : Nat) (p0 : T_queue_Queue) : Option (Int) :=
  some p0.first_

def m_hindcastref24_Queue_Guess (F : Nat) (p0 : T_hindcastref24_Queue) (p1 : Int) : Option (Int) :=
  (Option.bind (m_hindcastref24_Queue_At F p0 p1) fun (v10_0, v10_1) => (cond v10_1 (some v10_0) (cond ((p0.L.length : Int) == (0 : Int)) (some (0 :
    Int)) (Option.bind (getI p0.L (IntKind.wrap .i64 ((p0.L.length : Int) - (1 : Int)))) fun v31 => some v31))))

def m_queue_Queue_Slice (F : Nat) (p0 : T_queue_Queue) (p1 : Int) (p2 : Int) : Option ((List Int)) :=
  (Option.bind (m_queue_Queue_from F p0 p1) fun v10 => (Option.bind (cutI v10 0 (max (0 : Int) (min p2 (v10.length : Int)))) fun v17 => (Option.bind
    (appI ([] : List Int) v17) fun v18 => some v18)))

def m_hindcastref24_Queue_Slice_L6 (F : Nat) (p0 : T_hindcastref24_Queue) (p2 : Int) : Nat → Int → (List Int) → Option ((List Int))
  | 0, _, _ => none
  | n + 1, j7_1, j7_7 =>
      (cond (decide ((j7_7.length : Int) < p2)) (Option.bind (m_hindcastref24_Queue_At F p0 j7_1) fun (v17_0, v17_1) => (cond (!v17_1) (some j7_7)
        (Option.bind (appI j7_7 ([v17_0] : List Int)) fun v25 => m_hindcastref24_Queue_Slice_L6 F p0 p2 n (IntKind.wrap .u64 (j7_1 + (1 : Int)))
        v25))) (some j7_7))

def m_hindcastref24_Queue_Slice (F : Nat) (p0 : T_hindcastref24_Queue) (p1 : Int) (p2 : Int) : Option ((List Int)) :=
  (Option.bind (m_hindcastref24_Queue_Slice_L6 F p0 p2 F p1 ([] : List Int)) fun l7_7 => some l7_7)

def m_hindcastref06_Same_L14 (F : Nat) (p0 : (List Int)) (p1 : (List Int)) : Nat → Int → Option ((Bool) ⊕ (Bool))
  | 0, _ => none
  | n + 1, j15_5 =>
      (cond (decide (j15_5 < (p0.length : Int))) (Option.bind (getI p0 j15_5) fun v19 => (Option.bind (getI p1 j15_5) fun v23 => (cond (v19 != v23)
        (some (.inr false)) (m_hindcastref06_Same_L14 F p0 p1 n (IntKind.wrap .i64 (j15_5 + (1 : Int))))))) (some (.inl false)))

def m_hindcastref06_Same (F : Nat) (p0 : (List Int)) (p1 : (List Int)) : Option (Bool) :=
  (cond ((p0.length : Int) != (p1.length : Int)) (some false) (Option.bind (m_hindcastref06_Same_L14 F p0 p1 F (0 : Int)) (orE (fun l15_4 => some
    true) (fun r15 => some r15))))

def m_queue_Queue_Drop (F : Nat) (p0 : T_queue_Queue) (p1 : Int) : Option (T_queue_Queue) :=
  (cond (decide (p1 ≤ p0.first_)) (some p0) (Option.bind (m_queue_Queue_Known F p0) fun v17 => (Option.bind (cutI p0.l (IntKind.wrap .u64 ((min p1
    v17) - p0.first_)) (p0.l.length : Int)) fun v33 => (Option.bind (cutI (copyL p0.l v33) 0 ((min v33.length p0.l.length : Nat) : Int)) fun v42 =>
    some (T_queue_Queue.mk (min p1 v17) v42 p0.last)))))

def m_hindcastref24_Queue_Drop (F : Nat) (p0 : T_hindcastref24_Queue) (p1 : Int) : Option (T_hindcastref24_Queue) :=
  (Option.bind (m_hindcastref24_Queue_Known F p0) fun v6 => (Option.bind ((cond (decide (v6 < p1)) (Option.bind (m_hindcastref24_Queue_Known F p0) fun
    v9 => some v9) (some p1))) fun j4_1 => (cond (decide (p0.First < j4_1)) (some (T_hindcastref24_Queue.mk p0.Begin j4_1 p0.L)) (some p0))))

def m_hindcastlaw24_QueuePlays_L26 (F : Nat) (p1 : (List T_hindcastlaw24_Act)) : Nat → Int → T_queue_Queue → T_hindcastref24_Queue → Option ((Bool × T_queue_Queue × T_hindcastref24_Queue) ⊕ (Bool))
  | 0, _, _, _ => none
  | n + 1, j27_7, j27_n14_0, j27_n16_0 =>
      (cond (decide (j27_7 < (p1.length : Int))) (Option.bind (getI p1 j27_7) fun v31 => (cond (decide ((Int.tmod v31.What 4) < (3 : Int)))
        (Option.bind (m_queue_Queue_Add F j27_n14_0 v31.F v31.I) fun (o42_0, v42) => (Option.bind (m_hindcastref24_Queue_Add F j27_n16_0 v31.F v31.I)
        fun (o48_0, v48) => (cond (v42 != v48) (some (.inr false)) (Option.bind (m_queue_Queue_At F o42_0 v31.Ask) fun (v62_0, v62_1) => (Option.bind
        (m_hindcastref24_Queue_At F o48_0 v31.Ask) fun (v69_0, v69_1) => (Option.bind (cond (v62_0 != v69_0) (some (true)) (some ((v62_1 != v69_1))))
        fun v79 => (Option.bind (cond v79 (some (true)) ((Option.bind (m_queue_Queue_First F o42_0) fun v82 => some ((v82 != o48_0.First))))) fun v88
        => (Option.bind (cond v88 (some (true)) ((Option.bind (m_queue_Queue_Known F o42_0) fun v91 => (Option.bind (m_hindcastref24_Queue_Known F
        o48_0) fun v93 => some ((v91 != v93)))))) fun v95 => (Option.bind (cond v95 (some (true)) ((Option.bind (m_queue_Queue_Guess F o42_0 v31.Ask)
        fun v100 => (Option.bind (m_hindcastref24_Queue_Guess F o48_0 v31.Ask) fun v104 => some ((v100 != v104)))))) fun v106 => (Option.bind (cond
        v106 (some (true)) ((Option.bind (m_queue_Queue_Slice F o42_0 v31.Ask v31.N) fun v113 => (Option.bind (m_hindcastref24_Queue_Slice F o48_0
        v31.Ask v31.N) fun v119 => (Option.bind (m_hindcastref06_Same F v113 v119) fun v120 => some ((!v120))))))) fun v122 => (cond v122 (some (.inr
        false)) (m_hindcastlaw24_QueuePlays_L26 F p1 n (IntKind.wrap .i64 (j27_7 + (1 : Int))) o42_0 o48_0)))))))))))) (Option.bind
        (m_queue_Queue_Drop F j27_n14_0 v31.F) fun o53_0 => (Option.bind (m_hindcastref24_Queue_Drop F j27_n16_0 v31.F) fun o57_0 => (Option.bind
        (m_queue_Queue_At F o53_0 v31.Ask) fun (v62_0, v62_1) => (Option.bind (m_hindcastref24_Queue_At F o57_0 v31.Ask) fun (v69_0, v69_1) =>
        (Option.bind (cond (v62_0 != v69_0) (some (true)) (some ((v62_1 != v69_1)))) fun v79 => (Option.bind (cond v79 (some (true)) ((Option.bind
        (m_queue_Queue_First F o53_0) fun v82 => some ((v82 != o57_0.First))))) fun v88 => (Option.bind (cond v88 (some (true)) ((Option.bind
        (m_queue_Queue_Known F o53_0) fun v91 => (Option.bind (m_hindcastref24_Queue_Known F o57_0) fun v93 => some ((v91 != v93)))))) fun v95 =>
        (Option.bind (cond v95 (some (true)) ((Option.bind (m_queue_Queue_Guess F o53_0 v31.Ask) fun v100 => (Option.bind (m_hindcastref24_Queue_Guess
        F o57_0 v31.Ask) fun v104 => some ((v100 != v104)))))) fun v106 => (Option.bind (cond v106 (some (true)) ((Option.bind (m_queue_Queue_Slice F
        o53_0 v31.Ask v31.N) fun v113 => (Option.bind (m_hindcastref24_Queue_Slice F o57_0 v31.Ask v31.N) fun v119 => (Option.bind
        (m_hindcastref06_Same F v113 v119) fun v120 => some ((!v120))))))) fun v122 => (cond v122 (some (.inr false)) (m_hindcastlaw24_QueuePlays_L26
        F p1 n (IntKind.wrap .i64 (j27_7 + (1 : Int))) o53_0 o57_0))))))))))))) (some (.inl (false, j27_n14_0, j27_n16_0))))

def m_hindcastlaw24_QueuePlays (F : Nat) (p0 : Int) (p1 : (List T_hindcastlaw24_Act)) : Option (Bool) :=
  (Option.bind (m_queue_New F p0) fun v14 => (Option.bind (m_hindcastref24_New F p0) fun v16 => (cond (decide ((200 : Int) < (p1.length : Int)))
    (Option.bind (m_hindcastlaw24_works F) fun v22 => some v22) (Option.bind (m_hindcastlaw24_QueuePlays_L26 F p1 F (0 : Int) v14 v16) (orE (fun
    (l27_4, l27_n14_0, l27_n16_0) => (Option.bind (m_hindcastlaw24_works F) fun v123 => some v123)) (fun r27 => some r27))))))

def m_hindcastlaw24_QueueStays_L67 (F : Nat) (v34 : Int) (v36 : Int) (v39 : (List Int)) (j51_n16_0 : T_queue_Queue) : Nat → Int → (List Int) → Option ((Bool) ⊕ (Bool))
  | 0, _, _ => none
  | n + 1, j68_12, j68_11 =>
      (cond (decide (j68_12 < (j68_11.length : Int))) (Option.bind (m_queue_Queue_First F j51_n16_0) fun v94 => (Option.bind (cond (decide
        ((IntKind.wrap .u64 (v94 + (IntKind.wrap .u64 j68_12))) < v36)) ((Option.bind (getI j68_11 j68_12) fun v104 => (Option.bind (getI v39
        (IntKind.wrap .u64 ((IntKind.wrap .u64 (v94 + (IntKind.wrap .u64 j68_12))) - v34))) fun v110 => some ((v104 != v110))))) (some (false))) fun
        v113 => (cond v113 (some (.inr false)) (Option.bind (getI j68_11 j68_12) fun v116 => m_hindcastlaw24_QueueStays_L67 F v34 v36 v39 j51_n16_0 n
        (IntKind.wrap .i64 (j68_12 + (1 : Int))) (setI j68_11 j68_12 (99 : Int)))))) (some (.inl false)))

def m_hindcastlaw24_QueueStays_L91 (F : Nat) (v34 : Int) (v36 : Int) (v39 : (List Int)) (j51_n16_0 : T_queue_Queue) (l68_4 : Bool) : Nat → Int → Option ((Bool) ⊕ (Bool))
  | 0, _ => none
  | n + 1, j92_14 =>
      (cond (decide (j92_14 < v36)) (Option.bind (getI v39 (IntKind.wrap .u64 (j92_14 - v34))) fun v130 => (Option.bind (m_hindcastlaw24_at F
        j51_n16_0 j92_14 v130) fun v132 => (cond (!v132) (some (.inr false)) (m_hindcastlaw24_QueueStays_L91 F v34 v36 v39 j51_n16_0 l68_4 n
        (IntKind.wrap .u64 (j92_14 + (1 : Int))))))) (some (.inl l68_4)))

def m_hindcastlaw24_QueueStays_L24 (F : Nat) (p1 : (List T_hindcastlaw24_Act)) : Nat → Int → T_queue_Queue → Option ((Bool × T_queue_Queue) ⊕ (Bool))
  | 0, _, _ => none
  | n + 1, j25_6, j25_n16_0 =>
      (cond (decide (j25_6 < (p1.length : Int))) (Option.bind (getI p1 j25_6) fun v31 => (Option.bind (m_queue_Queue_First F j25_n16_0) fun v34 =>
        (Option.bind (m_queue_Queue_Known F j25_n16_0) fun v36 => (Option.bind (m_queue_Queue_Slice F j25_n16_0 v34 (1000 : Int)) fun v39 =>
        (Option.bind (cond ((IntKind.wrap .u64 (v39.length : Int)) != (IntKind.wrap .u64 (v36 - v34))) (some (true)) (some ((decide ((24 : Int) <
        (v39.length : Int)))))) fun v51 => (cond v51 (some (.inr false)) (Option.bind ((cond (decide ((Int.tmod v31.What 4) < (3 : Int))) (Option.bind
        (m_queue_Queue_Add F j25_n16_0 v31.F v31.I) fun (o61_0, v61) => some o61_0) (Option.bind (m_queue_Queue_Drop F j25_n16_0 v31.F) fun o65_0 =>
        some o65_0))) fun j51_n16_0 => (Option.bind (m_queue_Queue_Known F j51_n16_0) fun v67 => (Option.bind (cond (decide (v67 < v36)) (some (true))
        ((Option.bind (m_queue_Queue_First F j51_n16_0) fun v72 => some ((decide (v72 < v34)))))) fun v75 => (Option.bind (cond v75 (some (true))
        ((Option.bind (m_queue_Queue_First F j51_n16_0) fun v78 => (Option.bind (m_queue_Queue_Known F j51_n16_0) fun v80 => some ((decide (v80 <
        v78))))))) fun v82 => (cond v82 (some (.inr false)) (Option.bind (m_queue_Queue_First F j51_n16_0) fun v85 => (Option.bind
        (m_queue_Queue_Slice F j51_n16_0 v85 (1000 : Int)) fun v86 => (Option.bind (m_hindcastlaw24_QueueStays_L67 F v34 v36 v39 j51_n16_0 F (0 : Int)
        v86) (orE (fun l68_4 => (Option.bind (m_queue_Queue_First F j51_n16_0) fun v118 => (Option.bind (m_hindcastlaw24_QueueStays_L91 F v34 v36 v39
        j51_n16_0 l68_4 F v118) (orE (fun l92_4 => m_hindcastlaw24_QueueStays_L24 F p1 n (IntKind.wrap .i64 (j25_6 + (1 : Int))) j51_n16_0) (fun r92
        => some (.inr r92)))))) (fun r68 => some (.inr r68))))))))))))))))) (some (.inl (false, j25_n16_0))))

def m_hindcastlaw24_QueueStays (F : Nat) (p0 : Int) (p1 : (List T_hindcastlaw24_Act)) : Option (Bool) :=
  (Option.bind (m_queue_New F p0) fun v16 => (cond (decide ((200 : Int) < (p1.length : Int))) (Option.bind (m_hindcastlaw24_works F) fun v22 => some
    v22) (Option.bind (m_hindcastlaw24_QueueStays_L24 F p1 F (0 : Int) v16) (orE (fun (l25_4, l25_n16_0) => (Option.bind (m_hindcastlaw24_works F) fun
    v134 => some v134)) (fun r25 => some r25)))))

def m_hindcastlaw24_is_L14 (F : Nat) (p0 : (List Int)) (p1 : (List Int)) : Nat → Int → Option ((Bool) ⊕ (Bool))
  | 0, _ => none
  | n + 1, j15_5 =>
      (cond (decide (j15_5 < (p0.length : Int))) (Option.bind (getI p0 j15_5) fun v19 => (Option.bind (getI p1 j15_5) fun v23 => (cond (v19 != v23)
        (some (.inr false)) (m_hindcastlaw24_is_L14 F p0 p1 n (IntKind.wrap .i64 (j15_5 + (1 : Int))))))) (some (.inl false)))

def m_hindcastlaw24_is (F : Nat) (p0 : (List Int)) (p1 : (List Int)) : Option (Bool) :=
  (cond ((p0.length : Int) != (p1.length : Int)) (some false) (Option.bind (m_hindcastlaw24_is_L14 F p0 p1 F (0 : Int)) (orE (fun l15_4 => some true)
    (fun r15 => some r15))))

def m_queue_Queue_Drop_nil0 (F : Nat) (p1 : Int) : Option Unit :=
  some ()

def m_queue_Queue_Add_nil0 (F : Nat) (p1 : Int) (p2 : Int) : Option (Int) :=
  some (1 : Int)

def m_queue_Queue_Known_nil0 (F : Nat) : Option (Int) :=
  some (0 : Int)

def m_queue_Queue_First_nil0 (F : Nat) : Option (Int) :=
  some (0 : Int)

def m_queue_Queue_from_nil0 (F : Nat) (p1 : Int) : Option ((List Int)) :=
  some ([] : List Int)

def m_queue_Queue_At_nil0 (F : Nat) (p1 : Int) : Option (Int × Bool) :=
  (Option.bind (m_queue_Queue_from_nil0 F p1) fun v9 => (cond (decide ((0 : Int) < (v9.length : Int))) (Option.bind (getI v9 (0 : Int)) fun v14 =>
    some (v14, true)) (some ((0 : Int), false))))

def m_hindcastlaw24_no_nil0 (F : Nat) (p1 : Int) : Option (Bool) :=
  (Option.bind (m_queue_Queue_At_nil0 F p1) fun (v10_0, v10_1) => (Option.bind (cond (!v10_1) (some ((v10_0 == (0 : Int)))) (some (false))) fun v18 =>
    some v18))

def m_queue_Queue_Guess_nil0 (F : Nat) (p1 : Int) : Option (Int) :=
  (Option.bind (m_queue_Queue_At_nil0 F p1) fun (v10_0, v10_1) => (Option.bind (cond v10_1 (some (true)) (some (true))) fun v17 => (cond v17 (some
    v10_0) none)))

def m_queue_Queue_Slice_nil0 (F : Nat) (p1 : Int) (p2 : Int) : Option ((List Int)) :=
  (Option.bind (m_queue_Queue_from_nil0 F p1) fun v10 => (Option.bind (cutI v10 0 (max (0 : Int) (min p2 (v10.length : Int)))) fun v17 => (Option.bind
    (appI ([] : List Int) v17) fun v18 => some v18)))

def m_hindcastlaw24_QueueKnown_L44 (F : Nat) : Nat → Int → T_queue_Queue → Option ((Bool × T_queue_Queue) ⊕ (Bool))
  | 0, _, _ => none
  | n + 1, j45_2, j45_n5_0 =>
      (cond (decide (j45_2 < (24 : Int))) (Option.bind (m_queue_Queue_Add F j45_n5_0 (IntKind.wrap .u64 (IntKind.wrap .i64 ((7 : Int) + j45_2))) (3 :
        Int)) fun (o136_0, v136) => (cond (v136 != (0 : Int)) (some (.inr false)) (m_hindcastlaw24_QueueKnown_L44 F n (IntKind.wrap .i64 (j45_2 + (1 :
        Int))) o136_0))) (some (.inl (false, j45_n5_0))))

def m_hindcastlaw24_QueueKnown (F : Nat) : Option (Bool) :=
  (Option.bind (m_queue_New F (5 : Int)) fun v5 => (Option.bind (m_hindcastlaw24_works F) fun v9 => (Option.bind (cond (!v9) (some (true, v5))
    ((Option.bind (m_queue_Queue_Add F v5 (5 : Int) (7 : Int)) fun (o14_0, v14) => some ((v14 != (0 : Int)), o14_0)))) fun (v16, g16_n5_0) =>
    (Option.bind (cond v16 (some (true, g16_n5_0)) ((Option.bind (m_queue_Queue_Add F g16_n5_0 (5 : Int) (7 : Int)) fun (o19_0, v19) => some ((v19 !=
    (0 : Int)), o19_0)))) fun (v21, g21_n5_0) => (Option.bind (cond v21 (some (true, g21_n5_0)) ((Option.bind (m_queue_Queue_Add F g21_n5_0 (7 : Int)
    (1 : Int)) fun (o24_0, v24) => some ((v24 != (11 : Int)), o24_0)))) fun (v26, g26_n5_0) => (Option.bind (cond v26 (some (true, g26_n5_0))
    ((Option.bind (m_queue_Queue_Add F g26_n5_0 (4 : Int) (1 : Int)) fun (o29_0, v29) => some ((v29 != (0 : Int)), o29_0)))) fun (v31, g31_n5_0) =>
    (Option.bind (cond v31 (some (true, g31_n5_0)) ((Option.bind (m_queue_Queue_Add F g31_n5_0 (6 : Int) (64 : Int)) fun (o34_0, v34) => some ((v34 !=
    (2 : Int)), o34_0)))) fun (v36, g36_n5_0) => (Option.bind (cond v36 (some (true, g36_n5_0)) ((Option.bind (m_queue_Queue_Add F g36_n5_0 (4 : Int)
    (64 : Int)) fun (o39_0, v39) => some ((v39 != (2 : Int)), o39_0)))) fun (v41, g41_n5_0) => (Option.bind (cond v41 (some (true)) ((Option.bind
    (m_queue_Queue_Guess F g41_n5_0 (4 : Int)) fun v44 => some ((v44 != (7 : Int)))))) fun v46 => (Option.bind (cond v46 (some (true, g41_n5_0))
    ((Option.bind (m_queue_Queue_Add F g41_n5_0 (6 : Int) (9 : Int)) fun (o49_0, v49) => some ((v49 != (0 : Int)), o49_0)))) fun (v51, g51_n5_0) =>
    (cond v51 (some false) (Option.bind (m_queue_Queue_Slice F g51_n5_0 (5 : Int) (9 : Int)) fun v53 => (Option.bind (m_hindcastlaw24_is F v53 ([(7 :
    Int), (9 : Int)] : List Int)) fun v55 => (Option.bind (cond (!v55) (some (true)) ((Option.bind (m_queue_Queue_Slice F g51_n5_0 (4 : Int) (9 :
    Int)) fun v59 => (Option.bind (m_hindcastlaw24_is F v59 ([] : List Int)) fun v60 => some ((!v60)))))) fun v62 => (Option.bind (cond v62 (some
    (true)) ((Option.bind (m_queue_Queue_Slice F g51_n5_0 (5 : Int) (1 : Int)) fun v65 => (Option.bind (m_hindcastlaw24_is F v65 ([(7 : Int)] : List
    Int)) fun v67 => some ((!v67)))))) fun v69 => (Option.bind (cond v69 (some (true)) ((Option.bind (m_queue_Queue_Slice F g51_n5_0 (5 : Int) (0 :
    Int)) fun v72 => (Option.bind (m_hindcastlaw24_is F v72 ([] : List Int)) fun v73 => some ((!v73)))))) fun v75 => (Option.bind (cond v75 (some
    (true)) ((Option.bind (m_queue_Queue_Slice F g51_n5_0 (5 : Int) (-1 : Int)) fun v78 => (Option.bind (m_hindcastlaw24_is F v78 ([] : List Int)) fun
    v79 => some ((!v79)))))) fun v81 => (Option.bind (cond v81 (some (true)) ((Option.bind (m_queue_Queue_Slice F g51_n5_0 (7 : Int) (1 : Int)) fun
    v84 => (Option.bind (m_hindcastlaw24_is F v84 ([] : List Int)) fun v85 => some ((!v85)))))) fun v87 => (cond v87 (some false) (Option.bind
    (m_queue_Queue_Drop F g51_n5_0 (6 : Int)) fun o89_0 => (Option.bind (m_hindcastlaw24_no F o89_0 (5 : Int)) fun v91 => (Option.bind (cond (!v91)
    (some (true)) ((Option.bind (m_queue_Queue_First F o89_0) fun v95 => some ((v95 != (6 : Int)))))) fun v97 => (Option.bind (cond v97 (some (true))
    ((Option.bind (m_queue_Queue_Guess F o89_0 (9 : Int)) fun v100 => some ((v100 != (9 : Int)))))) fun v102 => (Option.bind (cond v102 (some (true))
    ((Option.bind (m_queue_Queue_Known F o89_0) fun v105 => some ((v105 != (7 : Int)))))) fun v107 => (cond v107 (some false) (Option.bind
    (m_queue_Queue_Drop F o89_0 (99 : Int)) fun o109_0 => (Option.bind (m_queue_Queue_First F o109_0) fun v111 => (Option.bind (cond (v111 != (7 :
    Int)) (some (true)) ((Option.bind (m_queue_Queue_Known F o109_0) fun v115 => some ((v115 != (7 : Int)))))) fun v117 => (Option.bind (cond v117
    (some (true)) ((Option.bind (m_queue_Queue_Guess F o109_0 (9 : Int)) fun v120 => some ((v120 != (9 : Int)))))) fun v122 => (Option.bind (cond v122
    (some (true)) ((Option.bind (m_hindcastlaw24_no F o109_0 (6 : Int)) fun v125 => some ((!v125))))) fun v127 => (cond v127 (some false) (Option.bind
    (m_hindcastlaw24_QueueKnown_L44 F F (0 : Int) o109_0) (orE (fun (l45_0, l45_n5_0) => (Option.bind (m_queue_Queue_Add F l45_n5_0 (31 : Int) (3 :
    Int)) fun (o139_0, v139) => (Option.bind (cond (v139 != (7 : Int)) (some (true, o139_0)) ((Option.bind (m_queue_Queue_Add F o139_0 (30 : Int) (3 :
    Int)) fun (o143_0, v143) => some ((v143 != (0 : Int)), o143_0)))) fun (v145, g145_n5_0) => (Option.bind (cond v145 (some (true, g145_n5_0))
    ((Option.bind (m_queue_Queue_Add F g145_n5_0 (30 : Int) (4 : Int)) fun (o148_0, v148) => some ((v148 != (14 : Int)), o148_0)))) fun (v150,
    g150_n5_0) => (cond v150 (some false) (Option.bind (m_queue_Queue_Drop F g150_n5_0 (8 : Int)) fun o152_0 => (Option.bind (m_queue_New F
    (18446744073709551614 : Int)) fun v153 => (Option.bind (m_queue_Queue_Drop_nil0 F (5 : Int)) fun _ => (Option.bind (m_queue_Queue_Add F o152_0 (31
    : Int) (3 : Int)) fun (o157_0, v157) => (Option.bind (cond (v157 == (0 : Int)) ((Option.bind (m_queue_Queue_Add F v153 (18446744073709551614 :
    Int) (1 : Int)) fun (o161_0, v161) => some ((v161 == (0 : Int)), o161_0))) (some (false, v153))) fun (v163, g163_n153_0) => (Option.bind (cond
    v163 ((Option.bind (m_queue_Queue_Add F g163_n153_0 (18446744073709551615 : Int) (1 : Int)) fun (o166_0, v166) => some ((v166 == (11 : Int)),
    o166_0))) (some (false, g163_n153_0))) fun (v168, g168_n153_0) => (Option.bind (cond v168 ((Option.bind (m_queue_Queue_Add_nil0 F (0 : Int) (0 :
    Int)) fun v171 => some ((v171 == (1 : Int))))) (some (false))) fun v173 => (Option.bind (cond v173 ((Option.bind (m_queue_Queue_Known_nil0 F) fun
    v176 => some ((v176 == (0 : Int))))) (some (false))) fun v178 => (Option.bind (cond v178 ((Option.bind (m_queue_Queue_First_nil0 F) fun v181 =>
    some ((v181 == (0 : Int))))) (some (false))) fun v183 => (Option.bind (cond v183 ((Option.bind (m_hindcastlaw24_no_nil0 F (0 : Int)) fun v186 =>
    some (v186))) (some (false))) fun v187 => (Option.bind (cond v187 ((Option.bind (m_queue_Queue_Guess_nil0 F (1 : Int)) fun v190 => some ((v190 ==
    (0 : Int))))) (some (false))) fun v192 => (Option.bind (cond v192 ((Option.bind (m_queue_Queue_Slice_nil0 F (0 : Int) (5 : Int)) fun v195 =>
    (Option.bind (m_hindcastlaw24_is F v195 ([] : List Int)) fun v196 => some (v196)))) (some (false))) fun v197 => (Option.bind (cond v197
    ((Option.bind (m_queue_New F (3 : Int)) fun v199 => (Option.bind (m_queue_Queue_Guess F v199 (3 : Int)) fun v200 => some ((v200 == (0 : Int))))))
    (some (false))) fun v202 => (Option.bind (cond v202 ((Option.bind (m_hindcastlaw24_works F) fun v204 => some (v204))) (some (false))) fun v205 =>
    some v205))))))))))))))))))) (fun r45 => some r45))))))))))))))))))))))))))))))))))

end Go.Proofs.Ytfjmhnfaoifehaa
