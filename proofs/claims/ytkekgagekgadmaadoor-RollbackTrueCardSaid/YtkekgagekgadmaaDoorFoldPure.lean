/-
  What a fold makes, in plain terms: the program's and the document's.
-/
import Derived.Test.YtkekgagekgadmaaDoorStepProg
namespace Go.Proofs.YtkekgagekgadmaaDoor
open Go.Proofs.YtkekgagekgadmaaDoor.Eng Go.RowKit Go.ChangeShapes Go.WideShapes Go.ChangeAt
set_option linter.unusedSimpArgs false
set_option linter.unusedVariables false
set_option maxHeartbeats 2000000
set_option maxRecDepth 20000

variable {F : Nat}

def foldv (s : T_api_State) (l : List (Int × Int)) : T_api_State := l.foldl (fun s p => stepv s p.1 p.2) s
theorem foldv_append (s : T_api_State) (a b : List (Int × Int)) : foldv s (a ++ b) = foldv (foldv s a) b := List.foldl_append ..
theorem foldv_drop (s : T_api_State) {l : List (Int × Int)} {i : Nat} (h : i < l.length) : foldv s (l.drop i) = foldv (stepv s l[i].1 l[i].2) (l.drop (i + 1)) := by
  rw [List.drop_eq_getElem_cons h]; rfl
theorem step_len {s : T_api_State} {i j : Int} (h : StOk s) (hl : s.Shots.length ≤ 100) : (stepv s i j).Shots.length ≤ 100 := by
  unfold stepv; split
  · rename_i hc
    have := (flown_ok (i := i) (j := j) h hc.1).1.N
    show (flown s i j).1.length ≤ 100
    omega
  · omega
theorem foldv_ok : ∀ {l : List (Int × Int)} {s : T_api_State}, StOk s → s.Shots.length ≤ 100 → StOk (foldv s l) ∧ (foldv s l).Shots.length ≤ 100
  | [], s, h, hl => ⟨h, hl⟩
  | p :: l, s, h, hl => foldv_ok (l := l) (s := stepv s p.1 p.2) (step_ok h) (step_len h hl)

theorem fold_loop {l : List (Int × Int)} (hF : 200 ≤ F) (hl : l.length ≤ 1000000) : ∀ (m i : Nat) (s : T_api_State), l.length - i < m → i ≤ l.length → StOk s → s.Shots.length ≤ 100 →
    m_fold_Fold_L8 F l m (i : Int) s.Frame s.Seed s.Players s.Shots s.Score = some ((foldv s (l.drop i)).Frame, (foldv s (l.drop i)).Seed, (foldv s (l.drop i)).Players, (foldv s (l.drop i)).Shots, (foldv s (l.drop i)).Score)
  | 0, i, s, hm, _, _, _ => by omega
  | m + 1, i, s, hm, hi, ho, hg => by
    rw [m_fold_Fold_L8.eq_2]
    by_cases h1 : i < l.length
    · have hx : l[i]? = some l[i] := List.getElem?_eq_getElem h1
      have hw : IntKind.wrap .i64 ((i : Int) + 1) = ((i + 1 : Nat) : Int) := by rw [wr_i64 ⟨by omega, by omega⟩]; omega
      have c2 : m_step_Step F (T_api_State.mk s.Frame s.Seed s.Players s.Shots s.Score) l[i] = some (stepv s l[i].1 l[i].2) := step_of (F := F) (i := l[i].1) (j := l[i].2) ho (by omega) (by omega)
      have ih := fold_loop hF hl m (i + 1) (stepv s l[i].1 l[i].2) (by omega) (by omega) (step_ok ho) (step_len ho hg)
      rw [foldv_drop s h1]
      generalize stepv s l[i].1 l[i].2 = t at *
      rw [decide_eq_true (show (i : Int) < (l.length : Int) by omega), cond_true, getI_nat, hx]
      simp only [Option.bind_some]
      rw [c2]
      simp only [Option.bind_some, hw]
      exact ih
    · rw [decide_eq_false (show ¬ (i : Int) < (l.length : Int) by omega), cond_false, List.drop_eq_nil_of_le (by omega)]
      rfl
theorem fold_of {s : T_api_State} {l : List (Int × Int)} (ho : StOk s) (hs : s.Shots.length ≤ 100) (hl : l.length ≤ 1000000) (hF : 200 ≤ F) (hF2 : l.length < F) : m_fold_Fold F s l = some (foldv s l) := by
  have c1 := copy_of (F := F) (s := s) (by omega)
  have e := fold_loop (F := F) hF hl F 0 s (by omega) (by omega) ho hs
  rw [List.drop_zero] at e
  have e' : m_fold_Fold_L8 F l F 0 s.Frame s.Seed s.Players s.Shots s.Score = _ := e
  generalize foldv s l = t at *
  unfold m_fold_Fold
  rw [c1]
  simp only [Option.bind_some]
  rw [e']
  rfl


/-- How many of the pairs are legal. -/
def legals : List (Int × Int) → Nat
  | [] => 0
  | p :: l => (if p.1 < 64 ∧ p.2 < 64 then 1 else 0) + legals l
theorem legals_le : ∀ l : List (Int × Int), legals l ≤ l.length
  | [] => Nat.le_refl 0
  | p :: l => by
    have := legals_le l
    simp only [legals, List.length_cons]
    split <;> omega
theorem wrap_add (a b : Int) : IntKind.wrap .u64 (IntKind.wrap .u64 a + b) = IntKind.wrap .u64 (a + b) := by
  simp only [IntKind.wrap, IntKind.bits, IntKind.signed]
  simp
theorem foldv_bad : ∀ {l : List (Int × Int)} {s : T_api_State}, stGood s = false → foldv s l = s
  | [], s, h => rfl
  | p :: l, s, h => by
    show foldv (stepv s p.1 p.2) l = s
    have e : stepv s p.1 p.2 = s := by unfold stepv; rw [if_neg (by rw [h]; simp)]
    rw [e]; exact foldv_bad h
theorem foldv_frame : ∀ {l : List (Int × Int)} {s : T_api_State}, StOk s → stGood s = true → (foldv s l).Frame = IntKind.wrap .u64 (s.Frame + (legals l : Int))
  | [], s, ho, h => by
    show s.Frame = IntKind.wrap .u64 (s.Frame + 0)
    have := ho.Frame
    rw [Int.add_zero, wr_u64 this]
  | p :: l, s, ho, h => by
    show (foldv (stepv s p.1 p.2) l).Frame = _
    rw [foldv_frame (step_ok ho) (step_good ho h)]
    simp only [legals]
    by_cases hc : p.1 < 64 ∧ p.2 < 64
    · rw [if_pos hc]
      have e : (stepv s p.1 p.2).Frame = IntKind.wrap .u64 (s.Frame + 1) := by unfold stepv; rw [if_pos ⟨h, hc⟩]; rfl
      rw [e, wrap_add]
      congr 1; omega
    · rw [if_neg hc]
      have e : stepv s p.1 p.2 = s := by unfold stepv; rw [if_neg (fun q => hc q.2)]
      rw [e]; congr 1; omega


end Go.Proofs.YtkekgagekgadmaaDoor
