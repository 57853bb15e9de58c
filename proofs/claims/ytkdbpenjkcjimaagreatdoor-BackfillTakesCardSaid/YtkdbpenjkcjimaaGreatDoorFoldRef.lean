/-
  The document's history (chapter 11) beside the program's.
-/
import Derived.Test.YtkdbpenjkcjimaaGreatDoorFoldHist
namespace Go.Proofs.YtkdbpenjkcjimaaGreatDoor
open Go.Proofs.YtkdbpenjkcjimaaGreatDoor.Eng Go.RowKit Go.ChangeShapes Go.WideShapes Go.ChangeAt
set_option linter.unusedSimpArgs false
set_option linter.unusedVariables false
set_option maxHeartbeats 2000000
set_option maxRecDepth 20000

variable {F : Nat}

theorem rcount_of {fr mo : Int} {L : List (Int × Int)} (f0 : 0 ≤ fr ∧ fr + (L.length : Int) ≤ 18446744073709551615) : m_hindcastref11_History_Count F ⟨fr, mo, L⟩ = some (fr + (L.length : Int)) := by
  have w1 : IntKind.wrap .u64 (L.length : Int) = (L.length : Int) := wr_u64 ⟨by omega, by omega⟩
  have w2 : IntKind.wrap .u64 (fr + (L.length : Int)) = fr + (L.length : Int) := wr_u64 ⟨by omega, by omega⟩
  unfold m_hindcastref11_History_Count
  simp only [w1, w2]

theorem radd_good {fr mo : Int} {L : List (Int × Int)} {p : Int × Int} (hp : p.1 < 64 ∧ p.2 < 64) (f0 : 0 ≤ fr ∧ fr + (L.length : Int) ≤ 18446744073709551615) (hl : L.length ≤ 256)
    (hc : ¬ ((L.length : Int) = mo ∨ fr + (L.length : Int) = 18446744073709551615)) : m_hindcastref11_History_Add F ⟨fr, mo, L⟩ p = some (⟨fr, mo, L ++ [p]⟩, 0) := by
  unfold m_hindcastref11_History_Add
  have : (decide (63 < p.1) || decide (63 < p.2)) = false := by simp; omega
  have a1 : appI ([] : List (Int × Int)) L = some L := by rw [appI_of (by simp; omega)]; rfl
  have a2 : appI L [p] = some (L ++ [p]) := appI_of (by simp; omega)
  simp only [or_some', this, rcount_of f0, Option.bind_some, cond_false, a1, a2]
  have : (((L.length : Int) == mo) || (fr + (L.length : Int) == 18446744073709551615)) = false := by
    cases h : (((L.length : Int) == mo) || (fr + (L.length : Int) == 18446744073709551615)) with
    | false => rfl
    | true => simp only [Bool.or_eq_true, beq_iff_eq] at h; exact absurd h hc
  rw [this]; rfl

theorem rat_of {fr mo : Int} {L : List (Int × Int)} (f0 : 0 ≤ fr ∧ fr + (L.length : Int) ≤ 18446744073709551615) {p : Int} (hp : 0 ≤ p ∧ p ≤ 18446744073709551615) : m_hindcastref11_History_At F ⟨fr, mo, L⟩ p = some (hatv fr L p) := by
  unfold m_hindcastref11_History_At
  simp only [or_some', rcount_of f0, Option.bind_some]
  by_cases hc : fr ≤ p ∧ p < fr + (L.length : Int)
  · have hk : L[(p - fr).toNat]? = some (L[(p - fr).toNat]'(by omega)) := List.getElem?_eq_getElem _
    have e : fr + ((p - fr).toNat : Int) = p := by omega
    have ha := hatv_in (fr := fr) hk
    rw [e] at ha
    have w1 : IntKind.wrap .u64 (p - fr) = p - fr := wr_u64 ⟨by omega, by omega⟩
    have : (decide (p < fr) || decide (fr + (L.length : Int) ≤ p)) = false := by simp; omega
    rw [ha, this, w1, getI_of (i := (p - fr).toNat) (by omega) hk]
    rfl
  · have : (decide (p < fr) || decide (fr + (L.length : Int) ≤ p)) = true := by simp; omega
    rw [hatv_out hc, this]
    rfl

/-- A cut of a history. -/
def slv (fr : Int) (L : List (Int × Int)) (p n : Int) : List (Int × Int) := if fr ≤ p then (L.drop (p - fr).toNat).take n.toNat else []

theorem slice_loop {h : T_fold_History} {fr mo : Int} {L : List (Int × Int)} (H : HI h fr mo L) {n : Int} (hn : n ≤ 9223372036854775807) : ∀ (m k i : Nat) (acc : List (Int × Int)), L.length - k < m → k ≤ L.length → acc.length ≤ k → i ≤ k →
    m_fold_History_Slice_L6 F h n m (fr + (k : Int)) acc (i : Int) = some (acc ++ (L.drop k).take (n - (i : Int)).toNat)
  | 0, k, i, acc, hm, _, _, _ => by omega
  | m + 1, k, i, acc, hm, hk, ha, hi => by
    have h0 := H.f0
    have h1 := H.m1
    have h2 := H.ln
    rw [m_fold_History_Slice_L6.eq_2]
    by_cases hc : (i : Int) < n
    · rw [decide_eq_true hc, cond_true, hat_of H (by omega)]
      by_cases hkl : k < L.length
      · have hx : L[k]? = some L[k] := List.getElem?_eq_getElem hkl
        have w1 : IntKind.wrap .u64 (fr + (k : Int) + 1) = fr + ((k + 1 : Nat) : Int) := by rw [wr_u64 ⟨by omega, by omega⟩]; omega
        have w2 : IntKind.wrap .i64 ((i : Int) + 1) = ((i + 1 : Nat) : Int) := by rw [wr_i64 ⟨by omega, by omega⟩]; omega
        rw [hatv_in hx]
        simp only [Option.bind_some, Bool.not_true, cond_false, w1, w2, appI_of (show acc.length + [L[k]].length ≤ 1073741824 by simp; omega)]
        rw [slice_loop H hn m (k + 1) (i + 1) _ (by omega) (by omega) (by simp; omega) (by omega), List.drop_eq_getElem_cons hkl,
          show (n - (i : Int)).toNat = (n - ((i + 1 : Nat) : Int)).toNat + 1 by omega, List.take_succ_cons, List.append_assoc]
        rfl
      · rw [hatv_out (by omega), List.drop_eq_nil_of_le (by omega)]
        simp
    · rw [decide_eq_false hc, cond_false, show (n - (i : Int)).toNat = 0 by omega]
      simp

theorem slice_of {h : T_fold_History} {fr mo : Int} {L : List (Int × Int)} (H : HI h fr mo L) {p n : Int} (hp : 0 ≤ p ∧ p ≤ 18446744073709551615) (hn : n ≤ 9223372036854775807) (hF : 300 ≤ F) : m_fold_History_Slice F h p n = some (slv fr L p n) := by
  have h1 := H.m1
  have h2 := H.ln
  unfold m_fold_History_Slice
  by_cases hc : fr ≤ p ∧ p < fr + (L.length : Int)
  · have e := slice_loop (F := F) H hn F (p - fr).toNat 0 [] (by omega) (by omega) (by simp) (by omega)
    rw [show fr + ((p - fr).toNat : Int) = p by omega] at e
    have e' : m_fold_History_Slice_L6 F h n F p [] 0 = _ := e
    rw [e']
    unfold slv
    rw [if_pos hc.1]
    simp
  · have e' : m_fold_History_Slice_L6 F h n F p [] 0 = some [] := by
      obtain ⟨f, rfl⟩ : ∃ f, F = f + 1 := ⟨F - 1, by omega⟩
      rw [m_fold_History_Slice_L6.eq_2]
      rw [hat_of H hp.1, hatv_out hc]
      cases decide ((0 : Int) < n) <;> rfl
    rw [e']
    unfold slv
    split
    · rw [List.drop_eq_nil_of_le (by omega)]; simp
    · rfl

theorem rdrop_loop {p : Int} : ∀ (m : Nat) (fr : Int) (L : List (Int × Int)), L.length < m → 0 ≤ fr ∧ fr + (L.length : Int) ≤ 18446744073709551615 →
    ∃ d : Nat, m_hindcastref11_History_Drop_L1 F p m fr L = some (fr + (d : Int), L.drop d) ∧ fr + (d : Int) = max fr (min p (fr + (L.length : Int)))
  | 0, fr, L, hm, _ => by omega
  | m + 1, fr, L, hm, hf => by
    rw [m_hindcastref11_History_Drop_L1.eq_2, and_some']
    simp only [Option.bind_some]
    by_cases hc : 0 < L.length ∧ fr < p
    · have w1 : IntKind.wrap .u64 (fr + 1) = fr + 1 := wr_u64 ⟨by omega, by omega⟩
      have c1 : cutI L 1 (L.length : Int) = some (L.drop 1) := cutI_of (i := 1) (j := L.length) rfl rfl (by omega) (by omega) (by rw [List.take_length])
      have hl1 : (L.drop 1).length = L.length - 1 := by simp
      obtain ⟨d, e1, e2⟩ := rdrop_loop (p := p) m (fr + 1) (L.drop 1) (by omega) ⟨by omega, by omega⟩
      rw [decide_eq_true (show (0 : Int) < (L.length : Int) by omega), decide_eq_true hc.2, Bool.and_self, cond_true, c1, w1]
      simp only [Option.bind_some]
      rw [e1, List.drop_drop]
      refine ⟨1 + d, ?_, by omega⟩
      rw [show fr + 1 + (d : Int) = fr + ((1 + d : Nat) : Int) by omega]
    · have : (decide ((0 : Int) < (L.length : Int)) && decide (fr < p)) = false := by
        cases h : (decide ((0 : Int) < (L.length : Int)) && decide (fr < p)) with
        | false => rfl
        | true => simp only [Bool.and_eq_true, decide_eq_true_eq] at h; exact absurd ⟨by omega, h.2⟩ hc
      rw [this, cond_false]
      exact ⟨0, by simp, by omega⟩

theorem rdrop_of {fr mo : Int} {L : List (Int × Int)} (f0 : 0 ≤ fr ∧ fr + (L.length : Int) ≤ 18446744073709551615) (hF : L.length < F) {p : Int} :
    ∃ d : Nat, m_hindcastref11_History_Drop F ⟨fr, mo, L⟩ p = some ⟨fr + (d : Int), mo, L.drop d⟩ ∧ fr + (d : Int) = max fr (min p (fr + (L.length : Int))) := by
  obtain ⟨d, e1, e2⟩ := rdrop_loop (F := F) (p := p) F fr L hF f0
  refine ⟨d, ?_, e2⟩
  unfold m_hindcastref11_History_Drop
  simp only [e1, Option.bind_some]


end Go.Proofs.YtkdbpenjkcjimaaGreatDoor
