/-
  Chapter 24: what the queue and the document's queue answer, in plain Lean.
-/
import Derived.Test.YtkdbpenjkcjimaaGreatDoorMod
import Derived.Test.YtkdbpenjkcjimaaGreatDoorPure
namespace Go.Proofs.YtkdbpenjkcjimaaGreatDoor
open Go Go.Proofs.YtkdbpenjkcjimaaGreatDoor.Eng
set_option linter.unusedSimpArgs false
set_option linter.unusedVariables false
set_option maxHeartbeats 1000000

def qOf (b k : Nat) (L : List Int) : T_queue_Queue := T_queue_Queue.mk ((b + k : Nat) : Int) (L.drop k) (L.getLast?.getD 0)
def rOf (b k : Nat) (L : List Int) : T_hindcastref24_Queue := T_hindcastref24_Queue.mk (b : Int) ((b + k : Nat) : Int) L

structure QOk (b k : Nat) (L : List Int) : Prop where
  k : k ≤ L.length
  u : b + L.length ≤ 18446744073709551615
  s : L.length ≤ 1000000

variable {F b k : Nat} {L : List Int}

theorem known_q (h : QOk b k L) : m_queue_Queue_Known F (qOf b k L) = some ((b + L.length : Nat) : Int) := by
  have := h.k; have := h.u
  simp only [m_queue_Queue_Known, qOf, List.length_drop]
  rw [wr_u64 (x := ((L.length - k : Nat) : Int)) ⟨by omega, by omega⟩, wr_u64 ⟨by omega, by omega⟩]
  congr 1; omega

theorem known_r (h : QOk b k L) : m_hindcastref24_Queue_Known F (rOf b k L) = some ((b + L.length : Nat) : Int) := by
  have := h.k; have := h.u
  simp only [m_hindcastref24_Queue_Known, rOf]
  rw [wr_u64 (x := (L.length : Int)) ⟨by omega, by omega⟩, wr_u64 ⟨by omega, by omega⟩]
  congr 1

theorem from_q (h : QOk b k L) {p : Nat} : m_queue_Queue_from F (qOf b k L) (p : Int) = some (if p < b + k ∨ b + L.length ≤ p then [] else L.drop (p - b)) := by
  have := h.k; have := h.u
  simp only [m_queue_Queue_from, known_q h]
  simp only [qOf]
  by_cases h1 : p < b + k
  · simp [h1, show (p : Int) < (b : Int) + (k : Int) by omega]
  · by_cases h2 : b + L.length ≤ p
    · simp [h1, h2, show ¬ (p : Int) < (b : Int) + (k : Int) by omega, show (b : Int) + (L.length : Int) ≤ (p : Int) by omega]
    · have e1 : cut3I (L.drop k) (IntKind.wrap .u64 ((p : Int) - ((b + k : Nat) : Int))) ((L.drop k).length : Int) ((L.drop k).length : Int) = some (L.drop (p - b)) := by
        refine cut3I_of (i := p - b - k) (j := (L.drop k).length) ?_ rfl rfl ?_ (Nat.le_refl _) ?_
        · rw [wr_u64 ⟨by omega, by omega⟩]; omega
        · simp; omega
        · rw [List.take_length, List.drop_drop]; congr 1; omega
      simp [h1, h2, show ¬ (p : Int) < (b : Int) + (k : Int) by omega, show ¬ (b : Int) + (L.length : Int) ≤ (p : Int) by omega]
      simpa using e1

def atv (b k : Nat) (L : List Int) (p : Nat) : Int × Bool := if p < b + k ∨ b + L.length ≤ p then (0, false) else (L.getD (p - b) 0, true)

theorem at_q (h : QOk b k L) {p : Nat} : m_queue_Queue_At F (qOf b k L) (p : Int) = some (atv b k L p) := by
  have := h.k; have := h.u
  simp only [m_queue_Queue_At, from_q h, Option.bind_some, atv]
  by_cases h1 : p < b + k ∨ b + L.length ≤ p
  · simp [h1]
  · have h2 : p - b < L.length := by omega
    simp only [if_neg h1, List.length_drop]
    rw [show decide ((0 : Int) < ((L.length - (p - b) : Nat) : Int)) = true from decide_eq_true (by omega)]
    have e : getI (L.drop (p - b)) 0 = some (L.getD (p - b) 0) := by
      refine getI_of (i := 0) rfl ?_
      simp [h2]
    simp [e]

theorem at_r (h : QOk b k L) {p : Nat} (hp : p ≤ 18446744073709551615) : m_hindcastref24_Queue_At F (rOf b k L) (p : Int) = some (atv b k L p) := by
  have := h.k; have := h.u
  simp only [m_hindcastref24_Queue_At, known_r h, Option.bind_some, atv]
  simp only [rOf]
  by_cases h1 : p < b + k
  · simp [h1, show (p : Int) < (b : Int) + (k : Int) by omega]
  · by_cases h2 : b + L.length ≤ p
    · simp [h1, h2, show ¬ (p : Int) < (b : Int) + (k : Int) by omega, show (b : Int) + (L.length : Int) ≤ (p : Int) by omega]
    · have e : getI L (IntKind.wrap .u64 ((p : Int) - (b : Int))) = some (L.getD (p - b) 0) := by
        refine getI_of (i := p - b) ?_ ?_
        · rw [wr_u64 ⟨by omega, by omega⟩]; omega
        · simp [show p - b < L.length by omega]
      simp [h1, h2, show ¬ (p : Int) < (b : Int) + (k : Int) by omega, show ¬ (b : Int) + (L.length : Int) ≤ (p : Int) by omega, e]

def addv (b k : Nat) (L : List Int) (p : Nat) (i : Int) : List Int × Int :=
  if 64 ≤ i then (L, 2) else if p < b + k then (L, 0) else if p < b + L.length then (if L.getD (p - b) 0 ≠ i then (L, 14) else (L, 0))
  else if p ≠ b + L.length ∨ p = 18446744073709551615 then (L, 11) else if 24 ≤ L.length - k then (L, 7) else (L ++ [i], 0)

theorem qOf_app {i : Int} (h : k ≤ L.length) : T_queue_Queue.mk ((b + k : Nat) : Int) (L.drop k ++ [i]) i = qOf b k (L ++ [i]) := by
  simp [qOf, List.drop_append_of_le_length h]

theorem add_q (h : QOk b k L) {p : Nat} {i : Int} : m_queue_Queue_Add F (qOf b k L) (p : Int) i = some (qOf b k (addv b k L p i).1, (addv b k L p i).2) := by
  have := h.k; have := h.u; have := h.s
  simp only [m_queue_Queue_Add, m_input_Legal, known_q h, at_q h, Option.bind_some]
  unfold addv atv
  by_cases h1 : 64 ≤ i
  · simp [h1, show ¬ i < 64 by omega]
  · have h1' : i < 64 := by omega
    by_cases h2 : p < b + k
    · simp [h1, h1', h2, qOf, show (p : Int) < (b : Int) + (k : Int) by omega]
    · have h2' : ¬ (p : Int) < (b : Int) + (k : Int) := by omega
      by_cases h3 : p < b + L.length
      · have h3' : ¬ b + L.length ≤ p := by omega
        by_cases h4 : L[p - b]?.getD 0 = i
        · simp [h1, h1', h2, h2', h3, h3', h4, qOf]
        · have h4' : (L[p - b]?.getD 0 != i) = true := bne_iff_ne.2 h4
          simp [h1, h1', h2, h2', h3, h3', h4, h4', qOf]
      · have h3' : b + L.length ≤ p := by omega
        by_cases h5 : p ≠ b + L.length ∨ p = 18446744073709551615
        · rcases h5 with h5 | h5
          · simp [h1, h1', h2, h2', h3, h3', qOf, h5, show (b : Int) + (L.length : Int) < (p : Int) by omega]
          · have h9 : ((p : Int) == 18446744073709551615) = true := beq_iff_eq.2 (by omega)
            have h10 : p ≠ b + L.length ∨ p = 18446744073709551615 := .inr h5
            simp only [h1, h1', h2, h2', h3, h3', h10, h9, qOf, if_true, if_false, decide_true, decide_false, Bool.not_true, cond_true, cond_false, or_true, false_or, Option.bind_some, decide_eq_true h1', Int.natCast_add]
            cases (decide ((b : Int) + (L.length : Int) < (p : Int))) <;> simp [h2']
        · have h5' : p = b + L.length := by omega
          have h8 : (((b : Int) + (L.length : Int)) == 18446744073709551615) = false := beq_eq_false_iff_ne.2 (by omega)
          have h6 : ¬ (p : Int) = 18446744073709551615 := by omega
          by_cases h7 : 24 ≤ L.length - k
          · subst h5'
            simp [h1, h1', h8, qOf, h7, show ¬ ((b : Int) + (L.length : Int) < (b : Int) + (k : Int)) by omega, show ¬ (b + L.length < b + k) by omega, show ¬ ((b : Int) + (L.length : Int) = 18446744073709551615) by omega, show ¬ (b + L.length = 18446744073709551615) by omega, show (24 : Int) ≤ ((L.length - k : Nat) : Int) by omega]
          · subst h5'
            have ea : appI (L.drop k) [i] = some (L.drop k ++ [i]) := appI_of (by simp; omega)
            have := qOf_app (b := b) (i := i) h.k
            simp [h1, h1', h8, qOf, h7, ea, List.drop_append_of_le_length h.k, show ¬ ((b : Int) + (L.length : Int) < (b : Int) + (k : Int)) by omega, show ¬ (b + L.length < b + k) by omega, show ¬ ((b : Int) + (L.length : Int) = 18446744073709551615) by omega, show ¬ (b + L.length = 18446744073709551615) by omega, show ¬ (24 : Int) ≤ ((L.length - k : Nat) : Int) by omega]


theorem add_r (h : QOk b k L) {p : Nat} {i : Int} (hp : p ≤ 18446744073709551615) : m_hindcastref24_Queue_Add F (rOf b k L) (p : Int) i = some (rOf b k (addv b k L p i).1, (addv b k L p i).2) := by
  have := h.k; have := h.u; have := h.s
  simp only [m_hindcastref24_Queue_Add, known_r h, at_r h hp, Option.bind_some]
  unfold addv atv
  by_cases h1 : 64 ≤ i
  · simp [h1]
  · by_cases h2 : p < b + k
    · simp [h1, h2, rOf, show (p : Int) < (b : Int) + (k : Int) by omega]
    · have h2' : ¬ (p : Int) < (b : Int) + (k : Int) := by omega
      by_cases h3 : p < b + L.length
      · have h3' : ¬ b + L.length ≤ p := by omega
        by_cases h4 : L[p - b]?.getD 0 = i
        · simp [h1, h2, h2', h3, h3', h4, rOf]
        · have h4' : (L[p - b]?.getD 0 != i) = true := bne_iff_ne.2 h4
          simp [h1, h2, h2', h3, h3', h4, h4', rOf]
      · have h3' : b + L.length ≤ p := by omega
        have hw : IntKind.wrap .u64 ((b : Int) + (L.length : Int) - ((b : Int) + (k : Int))) = ((L.length - k : Nat) : Int) := by rw [wr_u64 ⟨by omega, by omega⟩]; omega
        by_cases h5 : p ≠ b + L.length ∨ p = 18446744073709551615
        · rcases h5 with h5 | h5
          · have h6 : ((p : Int) != ((b : Int) + (L.length : Int))) = true := bne_iff_ne.2 (by omega)
            simp [h1, h2, h2', h3, h3', h6, h5, rOf]
          · have h9 : ((p : Int) == ((18446744073709551615 : Int))) = true := beq_iff_eq.2 (by omega)
            have h10 : p ≠ b + L.length ∨ p = 18446744073709551615 := .inr h5
            have h11 : (if p ≠ b + L.length ∨ p = 18446744073709551615 then (L, 11) else if 24 ≤ L.length - k then (L, 7) else (L ++ [i], 0)) = ((L, 11) : List Int × Int) := if_pos h10
            rw [if_neg h1, if_neg h2, if_neg h3, h11]
            cases h12 : ((p : Int) != ((b : Int) + (L.length : Int))) <;> simp [h1, h2, h2', h3, h3', h12, h9, rOf]
        · have h5' : p = b + L.length := by omega
          have h6 : ((p : Int) != ((b : Int) + (L.length : Int))) = false := by subst h5'; simp
          have h8 : ((p : Int) == ((18446744073709551615 : Int))) = false := beq_eq_false_iff_ne.2 (by omega)
          have ea : appI L [i] = some (L ++ [i]) := appI_of (by simp; omega)
          have h11 : (if p ≠ b + L.length ∨ p = 18446744073709551615 then (L, 11) else if 24 ≤ L.length - k then (L, 7) else (L ++ [i], 0)) = (if 24 ≤ L.length - k then (L, 7) else (L ++ [i], 0) : List Int × Int) := if_neg h5
          rw [if_neg h1, if_neg h2, if_neg h3, h11]
          by_cases h7 : 24 ≤ L.length - k
          · simp [h1, h2, h2', h3, h3', h6, h8, hw, ea, h7, rOf, show (24 : Int) ≤ ((L.length - k : Nat) : Int) by omega]
          · simp [h1, h2, h2', h3, h3', h6, h8, hw, ea, h7, rOf, show ¬ (24 : Int) ≤ ((L.length - k : Nat) : Int) by omega]

theorem addv_ok (h : QOk b k L) (hs : L.length < 1000000) {p : Nat} {i : Int} : QOk b k (addv b k L p i).1 ∧ (addv b k L p i).1.length ≤ L.length + 1 := by
  have := h.k; have := h.u; have := h.s
  unfold addv
  split
  · exact ⟨h, by simp⟩
  · split
    · exact ⟨h, by simp⟩
    · split
      · split <;> exact ⟨h, by simp⟩
      · split
        · exact ⟨h, by simp⟩
        · split
          · exact ⟨h, by simp⟩
          · refine ⟨⟨?_, ?_, ?_⟩, ?_⟩ <;> simp <;> omega

def dropv (b k : Nat) (L : List Int) (p : Nat) : Nat := if p ≤ b + k then k else min p (b + L.length) - b

theorem drop_q (h : QOk b k L) {p : Nat} : m_queue_Queue_Drop F (qOf b k L) (p : Int) = some (qOf b (dropv b k L p) L) := by
  have := h.k; have := h.u
  simp only [m_queue_Queue_Drop, known_q h, Option.bind_some]
  unfold dropv
  simp only [qOf]
  by_cases h1 : p ≤ b + k
  · simp [h1, show (p : Int) ≤ (b : Int) + (k : Int) by omega]
  · have hm : min (p : Int) ((b + L.length : Nat) : Int) = ((min p (b + L.length) : Nat) : Int) := by omega
    have hmk : b + k ≤ min p (b + L.length) := by omega
    have hml : min p (b + L.length) - b ≤ L.length := by omega
    have ec : cutI (L.drop k) (IntKind.wrap .u64 (((min p (b + L.length) : Nat) : Int) - ((b + k : Nat) : Int))) (((L.drop k).length : Nat) : Int) = some (L.drop (min p (b + L.length) - b)) := by
      refine cutI_of (i := min p (b + L.length) - b - k) (j := (L.drop k).length) ?_ rfl (by simp; omega) (Nat.le_refl _) ?_
      · rw [wr_u64 ⟨by omega, by omega⟩]; omega
      · rw [List.take_length, List.drop_drop]; congr 1; omega
    have ed : cutI (copyL (L.drop k) (L.drop (min p (b + L.length) - b))) 0 ((min (L.drop (min p (b + L.length) - b)).length (L.drop k).length : Nat) : Int) = some (L.drop (min p (b + L.length) - b)) := by
      have hle : (L.drop (min p (b + L.length) - b)).length ≤ (L.drop k).length := by simp; omega
      refine cutI_of (i := 0) (j := (L.drop (min p (b + L.length) - b)).length) rfl (by rw [Nat.min_eq_left hle]) (by omega) (by rw [copyL_length]; exact hle) ?_
      unfold copyL
      rw [List.take_of_length_le hle, List.take_append_of_le_length (Nat.le_refl _), List.take_length]
      rfl
    rw [hm]
    simp only [h1, if_false, ec, ed, Option.bind_some]
    simp [show ¬ (p : Int) ≤ (b : Int) + (k : Int) by omega]
    omega

theorem drop_r (h : QOk b k L) {p : Nat} : m_hindcastref24_Queue_Drop F (rOf b k L) (p : Int) = some (rOf b (dropv b k L p) L) := by
  have := h.k; have := h.u
  simp only [m_hindcastref24_Queue_Drop, known_r h, Option.bind_some]
  unfold dropv
  by_cases h0 : b + L.length < p
  · have h1 : ¬ p ≤ b + k := by omega
    by_cases h2 : k < L.length
    · simp [rOf, h1, show (b : Int) + (L.length : Int) < (p : Int) by omega, h2]
      omega
    · simp [rOf, h1, show (b : Int) + (L.length : Int) < (p : Int) by omega, h2]
      omega
  · by_cases h1 : p ≤ b + k
    · simp [rOf, h1, show ¬ (b : Int) + (L.length : Int) < (p : Int) by omega, show ¬ (b : Int) + (k : Int) < (p : Int) by omega]
    · simp [rOf, h1, show ¬ (b : Int) + (L.length : Int) < (p : Int) by omega, show (b : Int) + (k : Int) < (p : Int) by omega]
      omega

theorem dropv_ok (h : QOk b k L) {p : Nat} : QOk b (dropv b k L p) L := by
  have := h.k; have := h.u
  refine ⟨?_, h.u, h.s⟩
  unfold dropv; split <;> omega

def guessv (b k : Nat) (L : List Int) (p : Nat) : Int := if (atv b k L p).2 then (atv b k L p).1 else L.getLast?.getD 0

theorem guess_q (h : QOk b k L) {p : Nat} : m_queue_Queue_Guess F (qOf b k L) (p : Int) = some (guessv b k L p) := by
  simp only [m_queue_Queue_Guess, at_q h, Option.bind_some, guessv]
  cases (atv b k L p).2 <;> simp [qOf]

theorem guess_r (h : QOk b k L) {p : Nat} (hp : p ≤ 18446744073709551615) : m_hindcastref24_Queue_Guess F (rOf b k L) (p : Int) = some (guessv b k L p) := by
  have := h.k; have := h.u
  simp only [m_hindcastref24_Queue_Guess, at_r h hp, Option.bind_some, guessv]
  cases (atv b k L p).2
  · simp only [cond_false, rOf]
    by_cases h0 : L = []
    · subst h0; simp
    · have hl : 0 < L.length := List.length_pos_iff.2 h0
      have e0 : (((L.length : Nat) : Int) == 0) = false := beq_eq_false_iff_ne.2 (by omega)
      have e1 : getI L (IntKind.wrap .i64 ((L.length : Int) - 1)) = some (L.getLast?.getD 0) := by
        refine getI_of (i := L.length - 1) ?_ ?_
        · rw [wr_i64 ⟨by omega, by have := h.s; omega⟩]; omega
        · rw [List.getLast?_eq_getElem?]
          simp [List.getElem?_eq_getElem (show L.length - 1 < L.length by omega)]
      simp [e0, e1]
  · simp

end Go.Proofs.YtkdbpenjkcjimaaGreatDoor
