/-
  What a history of frames does, in plain terms: the program's ring holds the document's list.
-/
import Derived.Test.YtkdbpenjkcjimaaGreatDoorPure
import Derived.Test.YtkdbpenjkcjimaaGreatDoorMod
namespace Go.Proofs.YtkdbpenjkcjimaaGreatDoor
open Go.Proofs.YtkdbpenjkcjimaaGreatDoor.Eng Go.RowKit Go.ChangeShapes Go.WideShapes Go.ChangeAt
set_option linter.unusedSimpArgs false
set_option linter.unusedVariables false
set_option maxHeartbeats 2000000
set_option maxRecDepth 20000

variable {F : Nat}

/-- The history holds the pairs L from frame fr on, at most mo of them. -/
structure HI (h : T_fold_History) (fr mo : Int) (L : List (Int × Int)) : Prop where
  efr : h.from_ = fr
  ect : h.count = fr + (L.length : Int)
  emo : h.most = mo
  rg : ∀ (k : Nat) x, L[k]? = some x → h.ring.1[((fr + (k : Int)) % 256).toNat]? = some x
  m1 : 1 ≤ mo ∧ mo ≤ 256
  f0 : 0 ≤ fr ∧ fr + (L.length : Int) ≤ 18446744073709551615
  ln : (L.length : Int) ≤ mo

theorem tmod256 {x : Int} (h : 0 ≤ x) : Int.tmod x 256 = x % 256 := Int.tmod_eq_emod_of_nonneg h
theorem or_some' (a b : Bool) : cond a (some true) (some b) = some (a || b) := by cases a <;> rfl
theorem and_some' (a b : Bool) : cond a (some b) (some false) = some (a && b) := by cases a <;> rfl

theorem hi_is {h : T_fold_History} {fr mo : Int} {L : List (Int × Int)} (H : HI h fr mo L) : m_fold_History_is F h = some true := by
  have := H.m1
  unfold m_fold_History_is
  rw [H.emo, decide_eq_true (by omega)]

/-- What the history has at a frame. -/
def hatv (fr : Int) (L : List (Int × Int)) (p : Int) : (Int × Int) × Bool :=
  if fr ≤ p ∧ p < fr + (L.length : Int) then (L.getD (p - fr).toNat (0, 0), true) else ((0, 0), false)
theorem hatv_in {fr : Int} {L : List (Int × Int)} {k : Nat} {x : Int × Int} (h : L[k]? = some x) : hatv fr L (fr + (k : Int)) = (x, true) := by
  have hk := (List.getElem?_eq_some_iff.1 h).1
  unfold hatv
  rw [if_pos ⟨by omega, by omega⟩, show (fr + (k : Int) - fr).toNat = k by omega]
  simp [List.getD, h]
theorem hatv_out {fr : Int} {L : List (Int × Int)} {p : Int} (h : ¬ (fr ≤ p ∧ p < fr + (L.length : Int))) : hatv fr L p = ((0, 0), false) := by
  unfold hatv; rw [if_neg h]

theorem hat_of {h : T_fold_History} {fr mo : Int} {L : List (Int × Int)} (H : HI h fr mo L) {p : Int} (hp : 0 ≤ p) : m_fold_History_At F h p = some (hatv fr L p) := by
  unfold m_fold_History_At
  simp only [hi_is H, Option.bind_some, and_some', H.efr, H.ect, cond_true, Bool.true_and]
  by_cases hc : fr ≤ p ∧ p < fr + (L.length : Int)
  · have hk : L[(p - fr).toNat]? = some (L[(p - fr).toNat]'(by omega)) := List.getElem?_eq_getElem _
    have hr := H.rg _ _ hk
    have e : fr + ((p - fr).toNat : Int) = p := by omega
    have ha := hatv_in (fr := fr) hk
    rw [e] at hr ha
    rw [ha, decide_eq_true hc.1, decide_eq_true hc.2]
    simp only [Bool.and_true, cond_true]
    rw [getI_of (i := (p % 256).toNat) (by rw [tmod256 hp]; omega) hr]
    rfl
  · rw [hatv_out hc]
    have : (decide (fr ≤ p) && decide (p < fr + (L.length : Int))) = false := by
      cases h : (decide (fr ≤ p) && decide (p < fr + (L.length : Int))) with
      | false => rfl
      | true => simp only [Bool.and_eq_true, decide_eq_true_eq] at h; exact absurd h hc
    rw [this]
    rfl

theorem add_bad {h : T_fold_History} {fr mo : Int} {L : List (Int × Int)} (H : HI h fr mo L) {p : Int × Int} (hp : ¬ (p.1 < 64 ∧ p.2 < 64)) : m_fold_History_Add F h p = some (h, 2) := by
  unfold m_fold_History_Add
  simp only [hi_is H, Option.bind_some, Bool.not_true, cond_false, m_input_Legal, or_some']
  have : (!decide (p.1 < 64) || !decide (p.2 < 64)) = true := by
    cases h : (!decide (p.1 < 64) || !decide (p.2 < 64)) with
    | true => rfl
    | false => simp at h; exact absurd h hp
  rw [this]; rfl
theorem add_full {h : T_fold_History} {fr mo : Int} {L : List (Int × Int)} (H : HI h fr mo L) {p : Int × Int} (hp : p.1 < 64 ∧ p.2 < 64)
    (hc : (L.length : Int) = mo ∨ fr + (L.length : Int) = 18446744073709551615) : m_fold_History_Add F h p = some (h, 7) := by
  have h0 := H.f0
  have h1 := H.m1
  have h2 := H.ln
  unfold m_fold_History_Add
  simp only [hi_is H, Option.bind_some, Bool.not_true, cond_false, m_input_Legal, or_some', decide_eq_true hp.1, decide_eq_true hp.2, Bool.or_false, H.efr, H.ect, H.emo]
  have e : IntKind.wrap .u64 (fr + (L.length : Int) - fr) = (L.length : Int) := by rw [wr_u64 ⟨by omega, by omega⟩]; omega
  rw [e]
  have : (((L.length : Int) == mo) || (fr + (L.length : Int) == 18446744073709551615)) = true := by
    rcases hc with hc | hc
    · rw [hc]; simp
    · rw [hc]; simp
  rw [this]; rfl
theorem add_good {h : T_fold_History} {fr mo : Int} {L : List (Int × Int)} (H : HI h fr mo L) {p : Int × Int} (hp : p.1 < 64 ∧ p.2 < 64)
    (hc : ¬ ((L.length : Int) = mo ∨ fr + (L.length : Int) = 18446744073709551615)) : ∃ h', m_fold_History_Add F h p = some (h', 0) ∧ HI h' fr mo (L ++ [p]) := by
  have h0 := H.f0
  have h1 := H.m1
  have h2 := H.ln
  unfold m_fold_History_Add
  simp only [hi_is H, Option.bind_some, Bool.not_true, cond_false, m_input_Legal, or_some', decide_eq_true hp.1, decide_eq_true hp.2, Bool.or_false, H.efr, H.ect, H.emo]
  have e : IntKind.wrap .u64 (fr + (L.length : Int) - fr) = (L.length : Int) := by rw [wr_u64 ⟨by omega, by omega⟩]; omega
  rw [e]
  have : (((L.length : Int) == mo) || (fr + (L.length : Int) == 18446744073709551615)) = false := by
    cases h : (((L.length : Int) == mo) || (fr + (L.length : Int) == 18446744073709551615)) with
    | false => rfl
    | true => simp only [Bool.or_eq_true, beq_iff_eq] at h; exact absurd h hc
  rw [this]
  simp only [cond_false]
  have hlen := h.ring.2
  have hm : Int.tmod (fr + (L.length : Int)) 256 = (((fr + (L.length : Int)) % 256).toNat : Int) := by rw [tmod256 (by omega)]; omega
  have hlt : ((fr + (L.length : Int)) % 256).toNat < h.ring.1.length := by rw [hlen]; omega
  rw [hm, getI_of rfl (List.getElem?_eq_getElem hlt)]
  simp only [Option.bind_some]
  refine ⟨_, rfl, ⟨rfl, ?_, rfl, ?_, H.m1, ⟨h0.1, ?_⟩, ?_⟩⟩
  · show IntKind.wrap .u64 (fr + (L.length : Int) + 1) = _
    rw [wr_u64 ⟨by omega, by omega⟩]; simp; omega
  · intro k x hk
    show (setI h.ring.1 (((fr + (L.length : Int)) % 256).toNat : Int) p)[_]? = some x
    have hk2 := (List.getElem?_eq_some_iff.1 hk).1
    rw [List.length_append, List.length_singleton] at hk2
    unfold setI
    rw [Int.toNat_natCast]
    by_cases hkl : k < L.length
    · rw [List.getElem?_append_left hkl] at hk
      rw [List.getElem?_set_ne (by omega)]
      exact H.rg k x hk
    · have : k = L.length := by omega
      subst this
      rw [List.getElem?_append_right (Nat.le_refl _)] at hk
      simp at hk
      rw [List.getElem?_set_self hlt, hk]
  · simp; omega
  · simp; omega

/-- What dropping the frames ahead of one gives. -/
theorem drop_of {h : T_fold_History} {fr mo : Int} {L : List (Int × Int)} (H : HI h fr mo L) {p : Int} : ∃ h' d, m_fold_History_Drop F h p = some h' ∧ d ≤ L.length ∧ fr + (d : Int) = max fr (min p (fr + (L.length : Int))) ∧ HI h' (fr + (d : Int)) mo (L.drop d) := by
  have h0 := H.f0
  have h2 := H.ln
  unfold m_fold_History_Drop
  simp only [hi_is H, Option.bind_some, cond_true, H.efr, H.ect, H.emo]
  refine ⟨_, (max fr (min p (fr + (L.length : Int))) - fr).toNat, rfl, by omega, by omega, ⟨?_, ?_, rfl, ?_, H.m1, ?_, ?_⟩⟩
  · show max fr (min p (fr + (L.length : Int))) = _
    omega
  · show fr + (L.length : Int) = _
    simp; omega
  · intro k x hk
    rw [List.getElem?_drop] at hk
    have := H.rg _ _ hk
    show h.ring.1[_]? = _
    rw [← this]
    congr 2
    congr 1
    push_cast
    omega
  · simp; omega
  · simp; omega

theorem new_of {fr mo : Int} (h : 1 ≤ mo ∧ mo ≤ 256) (hf : 0 ≤ fr ∧ fr ≤ 18446744073709551615) : ∃ h, m_fold_New F fr mo = some (some h) ∧ HI h fr mo [] := by
  unfold m_fold_New
  rw [decide_eq_false (by omega), decide_eq_false (by omega), wr_u64 ⟨by omega, by omega⟩]
  exact ⟨_, rfl, ⟨rfl, by simp, rfl, by simp, h, by simp; omega, by simp; omega⟩⟩

end Go.Proofs.YtkdbpenjkcjimaaGreatDoor
