/-
  What a fold makes, in plain terms: the program's and the document's.
-/
import Derived.Test.YtkdbpenjkcjimaaGreatDoorStepProg
namespace Go.Proofs.YtkdbpenjkcjimaaGreatDoor
open Go.Proofs.YtkdbpenjkcjimaaGreatDoor.Eng Go.RowKit Go.ChangeShapes Go.WideShapes Go.ChangeAt
set_option linter.unusedSimpArgs false
set_option linter.unusedVariables false
set_option maxHeartbeats 2000000
set_option maxRecDepth 20000

variable {F : Nat}

def foldv (s : T_api_State) (l : List (Int × Int)) : T_api_State := l.foldl (fun s p => stepv s p.1 p.2) s
theorem foldv_append (s : T_api_State) (a b : List (Int × Int)) : foldv s (a ++ b) = foldv (foldv s a) b := List.foldl_append ..
theorem foldv_drop (s : T_api_State) {l : List (Int × Int)} {i : Nat} (h : i < l.length) : foldv s (l.drop i) = foldv (stepv s l[i].1 l[i].2) (l.drop (i + 1)) := by
  rw [List.drop_eq_getElem_cons h]; rfl
theorem step_len {s : T_api_State} {i j : Int} (h : StOk s) (hl : s.Shots.length ≤ 100) : (stepv s i j).Shots.length ≤ 100 := by
  unfold stepv; split
  · rename_i hc
    have := (flown_ok (i := i) (j := j) h hc.1).1.N
    show (flown s i j).1.length ≤ 100
    omega
  · omega
theorem foldv_ok : ∀ {l : List (Int × Int)} {s : T_api_State}, StOk s → s.Shots.length ≤ 100 → StOk (foldv s l) ∧ (foldv s l).Shots.length ≤ 100
  | [], s, h, hl => ⟨h, hl⟩
  | p :: l, s, h, hl => foldv_ok (l := l) (s := stepv s p.1 p.2) (step_ok h) (step_len h hl)



/-- How many of the pairs are legal. -/
def legals : List (Int × Int) → Nat
  | [] => 0
  | p :: l => (if p.1 < 64 ∧ p.2 < 64 then 1 else 0) + legals l
theorem legals_le : ∀ l : List (Int × Int), legals l ≤ l.length
  | [] => Nat.le_refl 0
  | p :: l => by
    have := legals_le l
    simp only [legals, List.length_cons]
    split <;> omega
theorem wrap_add (a b : Int) : IntKind.wrap .u64 (IntKind.wrap .u64 a + b) = IntKind.wrap .u64 (a + b) := by
  simp only [IntKind.wrap, IntKind.bits, IntKind.signed]
  simp
theorem foldv_bad : ∀ {l : List (Int × Int)} {s : T_api_State}, stGood s = false → foldv s l = s
  | [], s, h => rfl
  | p :: l, s, h => by
    show foldv (stepv s p.1 p.2) l = s
    have e : stepv s p.1 p.2 = s := by unfold stepv; rw [if_neg (by rw [h]; simp)]
    rw [e]; exact foldv_bad h
theorem foldv_frame : ∀ {l : List (Int × Int)} {s : T_api_State}, StOk s → stGood s = true → (foldv s l).Frame = IntKind.wrap .u64 (s.Frame + (legals l : Int))
  | [], s, ho, h => by
    show s.Frame = IntKind.wrap .u64 (s.Frame + 0)
    have := ho.Frame
    rw [Int.add_zero, wr_u64 this]
  | p :: l, s, ho, h => by
    show (foldv (stepv s p.1 p.2) l).Frame = _
    rw [foldv_frame (step_ok ho) (step_good ho h)]
    simp only [legals]
    by_cases hc : p.1 < 64 ∧ p.2 < 64
    · rw [if_pos hc]
      have e : (stepv s p.1 p.2).Frame = IntKind.wrap .u64 (s.Frame + 1) := by unfold stepv; rw [if_pos ⟨h, hc⟩]; rfl
      rw [e, wrap_add]
      congr 1; omega
    · rw [if_neg hc]
      have e : stepv s p.1 p.2 = s := by unfold stepv; rw [if_neg (fun q => hc q.2)]
      rw [e]; congr 1; omega


end Go.Proofs.YtkdbpenjkcjimaaGreatDoor
