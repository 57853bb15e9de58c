/-
  Chapter 11: the law FoldHistory: whatever is done to a history, it answers as the document's does.
-/
import Derived.Test.YtfkkpnfbpolppaaDoorFoldHist
import Derived.Test.YtfkkpnfbpolppaaDoorCards
import Derived.Test.YtfkkpnfbpolppaaDoorTie
import Derived.Test.YtfkkpnfbpolppaaDoorLaid
import Derived.Test.YtfkkpnfbpolppaaDoorWalk
import Derived.Deep.DeepHandedRow
namespace Go.Proofs.YtfkkpnfbpolppaaDoor
open Go.Proofs.YtfkkpnfbpolppaaDoor.Eng Go.RowKit Go.ChangeShapes Go.WideShapes Go.ChangeAt
set_option linter.unusedSimpArgs false
set_option linter.unusedVariables false
set_option maxHeartbeats 2000000
set_option maxRecDepth 20000

variable {F : Nat}

theorem rcount_of {fr mo : Int} {L : List (Int × Int)} (f0 : 0 ≤ fr ∧ fr + (L.length : Int) ≤ 18446744073709551615) : m_hindcastref11_History_Count F ⟨fr, mo, L⟩ = some (fr + (L.length : Int)) := by
  have w1 : IntKind.wrap .u64 (L.length : Int) = (L.length : Int) := wr_u64 ⟨by omega, by omega⟩
  have w2 : IntKind.wrap .u64 (fr + (L.length : Int)) = fr + (L.length : Int) := wr_u64 ⟨by omega, by omega⟩
  unfold m_hindcastref11_History_Count
  simp only [w1, w2]

theorem radd_bad {fr mo : Int} {L : List (Int × Int)} {p : Int × Int} (hp : ¬ (p.1 < 64 ∧ p.2 < 64)) : m_hindcastref11_History_Add F ⟨fr, mo, L⟩ p = some (⟨fr, mo, L⟩, 2) := by
  unfold m_hindcastref11_History_Add
  rw [or_some']
  have : (decide (63 < p.1) || decide (63 < p.2)) = true := by simp; omega
  rw [this]; rfl
theorem radd_full {fr mo : Int} {L : List (Int × Int)} {p : Int × Int} (hp : p.1 < 64 ∧ p.2 < 64) (f0 : 0 ≤ fr ∧ fr + (L.length : Int) ≤ 18446744073709551615)
    (hc : (L.length : Int) = mo ∨ fr + (L.length : Int) = 18446744073709551615) : m_hindcastref11_History_Add F ⟨fr, mo, L⟩ p = some (⟨fr, mo, L⟩, 7) := by
  unfold m_hindcastref11_History_Add
  have : (decide (63 < p.1) || decide (63 < p.2)) = false := by simp; omega
  simp only [or_some', this, rcount_of f0, Option.bind_some, cond_false]
  have : (((L.length : Int) == mo) || (fr + (L.length : Int) == 18446744073709551615)) = true := by
    rcases hc with hc | hc
    · rw [hc]; simp
    · rw [hc]; simp
  rw [this]; rfl
theorem radd_good {fr mo : Int} {L : List (Int × Int)} {p : Int × Int} (hp : p.1 < 64 ∧ p.2 < 64) (f0 : 0 ≤ fr ∧ fr + (L.length : Int) ≤ 18446744073709551615) (hl : L.length ≤ 256)
    (hc : ¬ ((L.length : Int) = mo ∨ fr + (L.length : Int) = 18446744073709551615)) : m_hindcastref11_History_Add F ⟨fr, mo, L⟩ p = some (⟨fr, mo, L ++ [p]⟩, 0) := by
  unfold m_hindcastref11_History_Add
  have : (decide (63 < p.1) || decide (63 < p.2)) = false := by simp; omega
  have a1 : appI ([] : List (Int × Int)) L = some L := by rw [appI_of (by simp; omega)]; rfl
  have a2 : appI L [p] = some (L ++ [p]) := appI_of (by simp; omega)
  simp only [or_some', this, rcount_of f0, Option.bind_some, cond_false, a1, a2]
  have : (((L.length : Int) == mo) || (fr + (L.length : Int) == 18446744073709551615)) = false := by
    cases h : (((L.length : Int) == mo) || (fr + (L.length : Int) == 18446744073709551615)) with
    | false => rfl
    | true => simp only [Bool.or_eq_true, beq_iff_eq] at h; exact absurd h hc
  rw [this]; rfl

theorem rat_of {fr mo : Int} {L : List (Int × Int)} (f0 : 0 ≤ fr ∧ fr + (L.length : Int) ≤ 18446744073709551615) {p : Int} (hp : 0 ≤ p ∧ p ≤ 18446744073709551615) : m_hindcastref11_History_At F ⟨fr, mo, L⟩ p = some (atv fr L p) := by
  unfold m_hindcastref11_History_At
  simp only [or_some', rcount_of f0, Option.bind_some]
  by_cases hc : fr ≤ p ∧ p < fr + (L.length : Int)
  · have hk : L[(p - fr).toNat]? = some (L[(p - fr).toNat]'(by omega)) := List.getElem?_eq_getElem _
    have e : fr + ((p - fr).toNat : Int) = p := by omega
    have ha := atv_in (fr := fr) hk
    rw [e] at ha
    have w1 : IntKind.wrap .u64 (p - fr) = p - fr := wr_u64 ⟨by omega, by omega⟩
    have : (decide (p < fr) || decide (fr + (L.length : Int) ≤ p)) = false := by simp; omega
    rw [ha, this, w1, getI_of (i := (p - fr).toNat) (by omega) hk]
    rfl
  · have : (decide (p < fr) || decide (fr + (L.length : Int) ≤ p)) = true := by simp; omega
    rw [atv_out hc, this]
    rfl

/-- A cut of a history. -/
def slv (fr : Int) (L : List (Int × Int)) (p n : Int) : List (Int × Int) := if fr ≤ p then (L.drop (p - fr).toNat).take n.toNat else []

theorem slice_loop {h : T_fold_History} {fr mo : Int} {L : List (Int × Int)} (H : HI h fr mo L) {n : Int} (hn : n ≤ 9223372036854775807) : ∀ (m k i : Nat) (acc : List (Int × Int)), L.length - k < m → k ≤ L.length → acc.length ≤ k → i ≤ k →
    m_fold_History_Slice_L6 F h n m (fr + (k : Int)) acc (i : Int) = some (acc ++ (L.drop k).take (n - (i : Int)).toNat)
  | 0, k, i, acc, hm, _, _, _ => by omega
  | m + 1, k, i, acc, hm, hk, ha, hi => by
    have h0 := H.f0
    have h1 := H.m1
    have h2 := H.ln
    rw [m_fold_History_Slice_L6.eq_2]
    by_cases hc : (i : Int) < n
    · rw [decide_eq_true hc, cond_true, at_of H (by omega)]
      by_cases hkl : k < L.length
      · have hx : L[k]? = some L[k] := List.getElem?_eq_getElem hkl
        have w1 : IntKind.wrap .u64 (fr + (k : Int) + 1) = fr + ((k + 1 : Nat) : Int) := by rw [wr_u64 ⟨by omega, by omega⟩]; omega
        have w2 : IntKind.wrap .i64 ((i : Int) + 1) = ((i + 1 : Nat) : Int) := by rw [wr_i64 ⟨by omega, by omega⟩]; omega
        rw [atv_in hx]
        simp only [Option.bind_some, Bool.not_true, cond_false, w1, w2, appI_of (show acc.length + [L[k]].length ≤ 1073741824 by simp; omega)]
        rw [slice_loop H hn m (k + 1) (i + 1) _ (by omega) (by omega) (by simp; omega) (by omega), List.drop_eq_getElem_cons hkl,
          show (n - (i : Int)).toNat = (n - ((i + 1 : Nat) : Int)).toNat + 1 by omega, List.take_succ_cons, List.append_assoc]
        rfl
      · rw [atv_out (by omega), List.drop_eq_nil_of_le (by omega)]
        simp
    · rw [decide_eq_false hc, cond_false, show (n - (i : Int)).toNat = 0 by omega]
      simp

theorem slice_of {h : T_fold_History} {fr mo : Int} {L : List (Int × Int)} (H : HI h fr mo L) {p n : Int} (hp : 0 ≤ p ∧ p ≤ 18446744073709551615) (hn : n ≤ 9223372036854775807) (hF : 300 ≤ F) : m_fold_History_Slice F h p n = some (slv fr L p n) := by
  have h1 := H.m1
  have h2 := H.ln
  unfold m_fold_History_Slice
  by_cases hc : fr ≤ p ∧ p < fr + (L.length : Int)
  · have e := slice_loop (F := F) H hn F (p - fr).toNat 0 [] (by omega) (by omega) (by simp) (by omega)
    rw [show fr + ((p - fr).toNat : Int) = p by omega] at e
    have e' : m_fold_History_Slice_L6 F h n F p [] 0 = _ := e
    rw [e']
    unfold slv
    rw [if_pos hc.1]
    simp
  · have e' : m_fold_History_Slice_L6 F h n F p [] 0 = some [] := by
      obtain ⟨f, rfl⟩ : ∃ f, F = f + 1 := ⟨F - 1, by omega⟩
      rw [m_fold_History_Slice_L6.eq_2]
      rw [at_of H hp.1, atv_out hc]
      cases decide ((0 : Int) < n) <;> rfl
    rw [e']
    unfold slv
    split
    · rw [List.drop_eq_nil_of_le (by omega)]; simp
    · rfl

theorem rslice_loop {fr mo : Int} {L : List (Int × Int)} {n : Int} (hl : L.length ≤ 256) : ∀ (m k : Nat) (acc : List (Int × Int)), L.length - k < m → k ≤ L.length → acc.length ≤ k →
    m_hindcastref11_History_Slice_L16 F ⟨fr, mo, L⟩ n m acc (k : Int) = some (acc ++ (L.drop k).take (n - (acc.length : Int)).toNat)
  | 0, k, acc, hm, _, _ => by omega
  | m + 1, k, acc, hm, hk, ha => by
    rw [m_hindcastref11_History_Slice_L16.eq_2]
    have w0 : IntKind.wrap .u64 (L.length : Int) = (L.length : Int) := wr_u64 ⟨by omega, by omega⟩
    simp only [and_some', w0, Option.bind_some]
    by_cases hkl : k < L.length
    · have hx : L[k]? = some L[k] := List.getElem?_eq_getElem hkl
      by_cases hc : (acc.length : Int) < n
      · have w1 : IntKind.wrap .u64 ((k : Int) + 1) = ((k + 1 : Nat) : Int) := by rw [wr_u64 ⟨by omega, by omega⟩]; omega
        rw [decide_eq_true (show (k : Int) < (L.length : Int) by omega), decide_eq_true hc]
        simp only [Bool.and_self, cond_true, getI_nat, hx, Option.bind_some, w1, appI_of (show acc.length + [L[k]].length ≤ 1073741824 by simp; omega)]
        rw [rslice_loop hl m (k + 1) _ (by omega) (by omega) (by simp; omega), List.drop_eq_getElem_cons hkl,
          show (n - (acc.length : Int)).toNat = (n - ((acc ++ [L[k]]).length : Int)).toNat + 1 by simp; omega, List.take_succ_cons, List.append_assoc]
        rfl
      · rw [decide_eq_false hc, Bool.and_false, show (n - (acc.length : Int)).toNat = 0 by omega]
        simp
    · rw [decide_eq_false (show ¬ (k : Int) < (L.length : Int) by omega), Bool.false_and, List.drop_eq_nil_of_le (by omega)]
      simp

theorem rslice_of {fr mo : Int} {L : List (Int × Int)} (f0 : 0 ≤ fr ∧ fr + (L.length : Int) ≤ 18446744073709551615) (hl : L.length ≤ 256) {p n : Int} (hp : 0 ≤ p ∧ p ≤ 18446744073709551615) (hF : 300 ≤ F) : m_hindcastref11_History_Slice F ⟨fr, mo, L⟩ p n = some (slv fr L p n) := by
  unfold m_hindcastref11_History_Slice
  simp only [or_some', rcount_of f0, Option.bind_some]
  unfold slv
  by_cases hc : fr ≤ p
  · rw [if_pos hc, decide_eq_false (show ¬ p < fr by omega), Bool.false_or]
    by_cases h2 : fr + (L.length : Int) < p
    · rw [decide_eq_true h2, cond_true, List.drop_eq_nil_of_le (by omega)]; simp
    · have w1 : IntKind.wrap .u64 (p - fr) = ((p - fr).toNat : Int) := by rw [wr_u64 ⟨by omega, by omega⟩]; omega
      rw [decide_eq_false h2, cond_false, w1, rslice_loop hl F (p - fr).toNat [] (by omega) (by omega) (by simp)]
      simp
  · rw [if_neg hc, decide_eq_true (show p < fr by omega), Bool.true_or]
    rfl

theorem same_loop {l : List (Int × Int)} (hl : l.length ≤ 100000) : ∀ (m i : Nat), l.length - i < m → i ≤ l.length → m_hindcastref11_Same_L14 F l l m (i : Int) = some (.inl false)
  | 0, i, hm, _ => by omega
  | m + 1, i, hm, hi => by
    rw [m_hindcastref11_Same_L14.eq_2]
    by_cases h1 : i < l.length
    · have hx : l[i]? = some l[i] := List.getElem?_eq_getElem h1
      have hw : IntKind.wrap .i64 ((i : Int) + 1) = ((i + 1 : Nat) : Int) := by rw [wr_i64 ⟨by omega, by omega⟩]; omega
      simp only [decide_eq_true (show (i : Int) < (l.length : Int) by omega), cond_true, getI_nat, hx, Option.bind_some, hw, beq_self_eq_true, Bool.and_self, Bool.not_true, cond_false]
      exact same_loop hl m (i + 1) (by omega) (by omega)
    · rw [decide_eq_false (show ¬ (i : Int) < (l.length : Int) by omega), cond_false]
theorem psame_of {l : List (Int × Int)} (hl : l.length ≤ 100000) (hF : l.length < F) : m_hindcastref11_Same F l l = some true := by
  unfold m_hindcastref11_Same
  have e : m_hindcastref11_Same_L14 F l l F 0 = _ := same_loop (F := F) hl F 0 (by omega) (by omega)
  rw [e]
  simp

theorem rdrop_loop {p : Int} : ∀ (m : Nat) (fr : Int) (L : List (Int × Int)), L.length < m → 0 ≤ fr ∧ fr + (L.length : Int) ≤ 18446744073709551615 →
    ∃ d : Nat, m_hindcastref11_History_Drop_L1 F p m fr L = some (fr + (d : Int), L.drop d) ∧ fr + (d : Int) = max fr (min p (fr + (L.length : Int)))
  | 0, fr, L, hm, _ => by omega
  | m + 1, fr, L, hm, hf => by
    rw [m_hindcastref11_History_Drop_L1.eq_2, and_some']
    simp only [Option.bind_some]
    by_cases hc : 0 < L.length ∧ fr < p
    · have w1 : IntKind.wrap .u64 (fr + 1) = fr + 1 := wr_u64 ⟨by omega, by omega⟩
      have c1 : cutI L 1 (L.length : Int) = some (L.drop 1) := cutI_of (i := 1) (j := L.length) rfl rfl (by omega) (by omega) (by rw [List.take_length])
      have hl1 : (L.drop 1).length = L.length - 1 := by simp
      obtain ⟨d, e1, e2⟩ := rdrop_loop (p := p) m (fr + 1) (L.drop 1) (by omega) ⟨by omega, by omega⟩
      rw [decide_eq_true (show (0 : Int) < (L.length : Int) by omega), decide_eq_true hc.2, Bool.and_self, cond_true, c1, w1]
      simp only [Option.bind_some]
      rw [e1, List.drop_drop]
      refine ⟨1 + d, ?_, by omega⟩
      rw [show fr + 1 + (d : Int) = fr + ((1 + d : Nat) : Int) by omega]
    · have : (decide ((0 : Int) < (L.length : Int)) && decide (fr < p)) = false := by
        cases h : (decide ((0 : Int) < (L.length : Int)) && decide (fr < p)) with
        | false => rfl
        | true => simp only [Bool.and_eq_true, decide_eq_true_eq] at h; exact absurd ⟨by omega, h.2⟩ hc
      rw [this, cond_false]
      exact ⟨0, by simp, by omega⟩

theorem rdrop_of {fr mo : Int} {L : List (Int × Int)} (f0 : 0 ≤ fr ∧ fr + (L.length : Int) ≤ 18446744073709551615) (hF : L.length < F) {p : Int} :
    ∃ d : Nat, m_hindcastref11_History_Drop F ⟨fr, mo, L⟩ p = some ⟨fr + (d : Int), mo, L.drop d⟩ ∧ fr + (d : Int) = max fr (min p (fr + (L.length : Int))) := by
  obtain ⟨d, e1, e2⟩ := rdrop_loop (F := F) (p := p) F fr L hF f0
  refine ⟨d, ?_, e2⟩
  unfold m_hindcastref11_History_Drop
  simp only [e1, Option.bind_some]

theorem one_of {h : T_fold_History} {fr mo : Int} {L : List (Int × Int)} (H : HI h fr mo L) {a : T_hindcastlaw11_Act} {p : Int} (hp : 0 ≤ p ∧ p ≤ 18446744073709551615) (hn : a.N ≤ 9223372036854775807) (hF : 300 ≤ F) :
    ∃ h' fr' L', m_hindcastlaw11_one F h ⟨fr, mo, L⟩ a p = some (h', ⟨fr', mo, L'⟩, true) ∧ HI h' fr' mo L' := by
  have h0 := H.f0
  have h1 := H.m1
  have h2 := H.ln
  unfold m_hindcastlaw11_one
  cases (Int.tmod a.What 4 == (0 : Int)) with
  | true =>
    rw [cond_true]
    by_cases hb : a.P.1 < 64 ∧ a.P.2 < 64
    · by_cases hc : (L.length : Int) = mo ∨ fr + (L.length : Int) = 18446744073709551615
      · rw [add_full H hb hc, radd_full hb h0 hc]
        exact ⟨_, _, _, rfl, H⟩
      · obtain ⟨h', e1, e2⟩ := add_good (F := F) H hb hc
        rw [e1, radd_good hb h0 (by omega) hc]
        exact ⟨_, _, _, rfl, e2⟩
    · rw [add_bad H hb, radd_bad hb]
      exact ⟨_, _, _, rfl, H⟩
  | false =>
    rw [cond_false]
    cases (Int.tmod a.What 4 == (1 : Int)) with
    | true =>
      rw [cond_true, at_of H hp.1]
      simp only [Option.bind_some]
      rw [rat_of h0 hp]
      simp only [Option.bind_some, beq_self_eq_true, Bool.and_self, cond_true]
      exact ⟨_, _, _, rfl, H⟩
    | false =>
      rw [cond_false]
      cases (Int.tmod a.What 4 == (2 : Int)) with
      | true =>
        rw [cond_true, slice_of H hp hn hF]
        simp only [Option.bind_some]
        rw [rslice_of h0 (by omega) hp hF]
        simp only [Option.bind_some]
        have hl : (slv fr L p a.N).length ≤ 256 := by
          unfold slv; split
          · simp; omega
          · simp
        rw [psame_of (by omega) (by omega)]
        exact ⟨_, _, _, rfl, H⟩
      | false =>
        rw [cond_false]
        obtain ⟨h', d, e1, e2, e3, e4⟩ := drop_of (F := F) H (p := p)
        obtain ⟨d', f1, f2⟩ := rdrop_of (F := F) (mo := mo) h0 (by omega) (p := p)
        obtain rfl : d = d' := by omega
        rw [e1, f1]
        exact ⟨_, _, _, rfl, e4⟩

theorem hist_loop {fi mo : Int} {l : List T_hindcastlaw11_Act} (hN : ∀ a ∈ l, a.N ≤ 9223372036854775807) (hF : 650 ≤ F) : ∀ (m i : Nat) (h : T_fold_History) (fr : Int) (L : List (Int × Int)), 600 - i < m → i ≤ 600 → HI h fr mo L →
    ∃ x, m_hindcastlaw11_FoldHistory_L26 F fi l m (i : Int) h fr mo L = some (.inl (false, x))
  | 0, i, h, fr, L, hm, _, _ => by omega
  | m + 1, i, h, fr, L, hm, hi, H => by
    rw [m_hindcastlaw11_FoldHistory_L26.eq_2, and_some']
    simp only [Option.bind_some]
    by_cases h1 : i < l.length ∧ i < 600
    · have hx : l[i]? = some l[i] := List.getElem?_eq_getElem h1.1
      have hw : IntKind.wrap .i64 ((i : Int) + 1) = ((i + 1 : Nat) : Int) := by rw [wr_i64 ⟨by omega, by omega⟩]; omega
      have hu : 0 ≤ IntKind.wrap .u64 (fi + l[i].F) ∧ IntKind.wrap .u64 (fi + l[i].F) ≤ 18446744073709551615 := by
        generalize fi + l[i].F = z
        unfold IntKind.wrap; simp [IntKind.bits, IntKind.signed]; omega
      obtain ⟨h', fr', L', e1, e2⟩ := one_of (F := F) H (a := l[i]) hu (hN _ (List.getElem_mem h1.1)) (by omega)
      rw [decide_eq_true (show (i : Int) < (l.length : Int) by omega), decide_eq_true (show (i : Int) < 600 by omega), Bool.and_self, cond_true]
      simp only [getI_nat, hx, Option.bind_some]
      rw [e1]
      simp only [Option.bind_some, Bool.not_true, cond_false, from_of e2, count_of e2, rcount_of e2.f0, bne_self_eq_false, hw]
      exact hist_loop hN hF m (i + 1) h' fr' L' (by omega) (by omega) e2
    · have : (decide ((i : Int) < (l.length : Int)) && decide ((i : Int) < 600)) = false := by
        cases h : (decide ((i : Int) < (l.length : Int)) && decide ((i : Int) < 600)) with
        | false => rfl
        | true => simp only [Bool.and_eq_true, decide_eq_true_eq] at h; exact absurd ⟨by omega, by omega⟩ h1
      rw [this, cond_false]
      exact ⟨_, rfl⟩

theorem history_pure (hF : 650 ≤ F) (hwk : m_hindcastlaw11_awake F = some true) {fi mo : Int} {l : List T_hindcastlaw11_Act} (hf : 0 ≤ fi ∧ fi ≤ 18446744073709551615) (hN : ∀ a ∈ l, a.N ≤ 9223372036854775807) : m_hindcastlaw11_FoldHistory F fi mo l = some true := by
  unfold m_hindcastlaw11_FoldHistory m_hindcastref11_May
  simp only [and_some', Option.bind_some, hwk]
  by_cases hc : 1 ≤ mo ∧ mo ≤ 256
  · obtain ⟨h, h1, H⟩ := new_of (F := F) hc hf
    rw [h1, decide_eq_true hc.1, decide_eq_true hc.2]
    simp only [Option.bind_some, poE, Bool.and_self, Bool.not_true, cond_false]
    obtain ⟨x, hx⟩ := hist_loop (F := F) (fi := fi) (mo := mo) hN hF F 0 h fi [] (by omega) (by omega) H
    have hx' : m_hindcastlaw11_FoldHistory_L26 F fi l F 0 h fi mo [] = _ := hx
    rw [hx']
    simp only [Option.bind_some, orE_l]
  · have e : m_fold_New F fi mo = some none := by
      unfold m_fold_New
      rw [or_some']
      have : (decide (mo < 1) || decide (256 < mo)) = true := by simp; omega
      rw [this]; rfl
    have : (decide (1 ≤ mo) && decide (mo ≤ 256)) = false := by
      cases h : (decide (1 ≤ mo) && decide (mo ≤ 256)) with
      | false => rfl
      | true => simp only [Bool.and_eq_true, decide_eq_true_eq] at h; exact absurd h hc
    rw [e, this]
    rfl

theorem history_awake : m_hindcastlaw11_awake 700 = some true := by kernel_rfl

theorem act_rd {w : World} {m : Nat} {cs : List Value} (h : Rdw TT w (m + 3) 58 cs) : ∃ x : T_hindcastlaw11_Act, cs = c_T_hindcastlaw11_Act x ∧ x.N ≤ 9223372036854775807 := by
  obtain ⟨hl, hf⟩ := rd_struct h rfl
  match cs, hl with
  | [c0, p0, p1, c1, c2], _ =>
    obtain ⟨n0, rfl, w0⟩ := rd_cell (hf (5, 0) (by simp)) rfl
    have hP : Rdw TT w (m + 2) 39 [p0, p1] := hf (39, 1) (by simp)
    obtain ⟨_, hPf⟩ := rd_arr hP rfl
    obtain ⟨u0, rfl, _⟩ := rd_cell (hPf 0 (by omega)) rfl
    obtain ⟨u1, rfl, _⟩ := rd_cell (hPf 1 (by omega)) rfl
    obtain ⟨n1, rfl, w1⟩ := rd_cell (hf (22, 3) (by simp)) rfl
    obtain ⟨n2, rfl, w2⟩ := rd_cell (hf (3, 4) (by simp)) rfl
    refine ⟨⟨n0, (u0, u1), n1, n2⟩, rfl, ?_⟩
    simp [Lit.wf, IntKind.min, IntKind.max, IntKind.bits, IntKind.signed] at w2
    show n2 ≤ _
    omega

theorem foldHistory_walk (W : World) (hG : Rds W [] [] (some ⟨0, 0, none⟩) (flat (fun _ : Unit => gl_state_playerBounds) [()]) ∧ Rds W [] [] (some ⟨1, 0, none⟩) (flat (fun _ : Unit => gl_state_shotBounds) [()]))
    (v0 v1 v2 : Value) (R0 : Rdw TT W 8 22 [v0]) (R1 : Rdw TT W 8 3 [v1]) (R2 : Rdw TT W 8 51 [v2]) :
    Calls Tryd.prog 6 #[v0, v1, v2] W fun e w' => e = .returned (.bool true) ∧ Inv W [] w' [] := by
  obtain ⟨fi, rfl, w0⟩ := rd_cell R0 rfl
  obtain ⟨mo, rfl, w1⟩ := rd_cell R1 rfl
  obtain ⟨a1, n1, cap1, xs, rfl, hn1, hc1, _, hr1, hp⟩ := rd_list (enc := c_T_hindcastlaw11_Act) (ok := fun x => x.N ≤ 9223372036854775807) R2 rfl rfl c_T_hindcastlaw11_Act_len (fun es _ h => act_rd h)
  exact (k_hindcastlaw11_FoldHistory hn1 hc1 (history_pure (F := 700) (by omega) history_awake (wf_u64 w0) hp)).run W ⟨hr1, hG⟩

noncomputable def foldHistory_world (os : Os) : World :=
  { World.holding Tryd.prog os ⟨#[], #[], []⟩ with heap := ((World.holding Tryd.prog os ⟨#[], #[], []⟩).heap.modify 0 fun | .cells _ t frozen => .cells gl_state_playerBounds.toArray t frozen | o => o).modify 1 fun | .cells _ t frozen => .cells gl_state_shotBounds.toArray t frozen | o => o }
theorem foldHistory_laid_met (os : Os) : laidMet Tryd.prog Rows.foldHistoryRow.laid ((foldHistory_world os).forCall (fun _ _ => 0) ⟨#[], #[.int .u64 0, .int .i64 0, .slice none 0 0], []⟩).memory := laidMet_of_run' 8 (by kernel_rfl) (by kernel_rfl)
theorem foldHistory_reads (os : Os) {H : Type} (enc : TypeId × Value → H) : ∃ places, DataW.whole enc Tryd.prog ((foldHistory_world os).forCall (fun _ _ => 0) ⟨#[], #[.int .u64 0, .int .i64 0, .slice none 0 0], []⟩).memory Tryd.f6.params.toList Rows.foldHistorySpec.vars false (#[.int .u64 0, .int .i64 0, .slice none 0 0] : Array Value).toList 8 = some ([.lit (.int .u64 0), .lit (.int .i64 0), .nil], [], places) := ⟨[], by kernel_rfl⟩
set_option maxRecDepth 100000 in
theorem foldHistory_lifted (os : Os) (started : os.Started) (H : Type) (enc : TypeId × Value → H) (F : Stop.Interp) :
    ReturnsInHanded {} Tryd.checked os 6 .any ((OpenSpec.ofChange Rows.foldHistorySpec).preRow enc Tryd.prog Tryd.f6 Rows.foldHistoryRow.domain false Rows.foldHistoryRow.laid) (((OpenSpec.ofChange Rows.foldHistorySpec).at F).post enc Tryd.prog Tryd.f6 false true false false) := by
  obtain ⟨places, hx⟩ := foldHistory_reads os enc
  refine returnsInHanded_of_row (C := Tryd.checked) (s := OpenSpec.ofChange Rows.foldHistorySpec) (by kernel_rfl) started (by kernel_rfl) Tryd.func6
    (witness_row_at (enc := enc) (C := Tryd.checked) false (foldHistory_world os) #[.int .u64 0, .int .i64 0, .slice none 0 0] rfl (by kernel_rfl) (by kernel_rfl) (by kernel_rfl)
      (OpenSpec.preRow_of_cond 8 hx (by kernel_rfl) (fun k hk => by cases hk) (by kernel_rfl) (foldHistory_laid_met os))) ?_
  intro W base args ds gs before hval0 hW hcnd hk0 hsz0 hL _ _
  have hG := laid_cells hL
  have hval : ∀ (j : Nat) t v, Tryd.f6.params[j]? = some t → args[j]? = some v → Value.okWide Tryd.prog W .any base t v := hval0
  have hW' := hW
  obtain ⟨p, q, hA0, hV, rfl, hfz, hnd⟩ := hW
  have hA : DataW.TrodAll enc Tryd.prog W 0 (fun _ => true) true Tryd.f6.params.toList args.toList ds p := hA0
  obtain ⟨rfl, rfl⟩ := trodVars_none hV
  have hsz : ∀ x ∈ DataW.weightsEach Tryd.prog Tryd.f6.params.toList ds, x ≤ maxB := by
    have h1 : (DataW.weightsEach Tryd.prog (Tryd.f6.params.toList ++ []) (ds ++ [])).all (· ≤ reachBytes) = true := hsz0
    simp only [List.append_nil] at h1
    intro x hx; have h2 := List.all_eq_true.1 h1 x hx; simp only [decide_eq_true_eq] at h2; exact h2
  rw [Tryd.params6] at hA hval hsz
  have hR := rdw_all tt_ok ctt_ok (closed_of tt_closed) (fun _ => rfl) 8 hA hsz
  have hback := fun (W2 : World) (hb : Below W.heap.size W W2) => trodAll_below (by kernel_rfl : laidOutB Tryd.prog = true) hb (by kernel_rfl) hA
  obtain ⟨v0, vs0, d0, ds0, p0, q0, hargs, rfl, rfl, h0, r0⟩ := trodAll_cons hA
  obtain ⟨v1, vs1, d1, ds1, p1, q1, rfl, rfl, rfl, h1, r1⟩ := trodAll_cons r0
  obtain ⟨v2, vs2, d2, ds2, p2, q2, rfl, rfl, rfl, h2, r2⟩ := trodAll_cons r1
  obtain ⟨rfl, rfl, rfl⟩ := trodAll_nil r2
  obtain rfl : args = #[v0, v1, v2] := by cases args; simp_all
  have R0 := hR 0 22 v0 rfl rfl
  have e0 := val_one tt_ok (t := 22) rfl (by intro h; cases h) rfl (hval 0 22 v0 rfl rfl)
  rw [e0] at R0
  have R1 := hR 1 3 v1 rfl rfl
  have e1 := val_one tt_ok (t := 3) rfl (by intro h; cases h) rfl (hval 1 3 v1 rfl rfl)
  rw [e1] at R1
  have R2 := hR 2 51 v2 rfl rfl
  have e2 := val_one tt_ok (t := 51) rfl (by intro h; cases h) rfl (hval 2 51 v2 rfl rfl)
  rw [e2] at R2
  clear hval hval0 hsz hsz0 hR hA0
  refine (foldHistory_walk W hG v0 v1 v2 R0 R1 R2).mono fun e W2 ⟨he, hI⟩ => ?_
  subst he
  exact ⟨_, rfl, _, _, _, [], _, [], hW', trodAll_mk1 (shut_bool Tryd.underlying4 _), hback _ (below_of_inv hI), rfl, (below_of_inv hI).frame _, fun h => by cases h⟩

theorem foldHistory_said : Rows.FoldHistorySaid :=
  OpenClaim.holds_of_cond 6 Tryd.f6 rfl rfl rfl rfl rfl rfl rfl ⟨rfl, rfl, rfl, rfl, rfl⟩ rfl rfl rfl rfl rfl (by kernel_rfl) Tryd.func6 (by kernel_rfl)
    (of_decide_eq_true (by kernel_rfl)) (by unfold Func.isWrapper; first | (rw [if_pos (by decide +kernel)]; kernel_rfl) | (rw [if_neg (by decide +kernel)]; exact ⟨rfl, rfl⟩))
    (fun os started H enc _ F => by rw [OpenClaim.pre_eq_preRow]; exact foldHistory_lifted os started H enc F)

theorem foldHistory_plain (f : FuncId) (fn : Func) (hf : Tryd.pinned.checked.prog.funcNamed "hindcast/hindcastlaw11.FoldHistory" = some f) (hfn : Tryd.pinned.checked.prog.funcs[f]? = some fn) :
    false = Tryd.pinned.checked.prog.looks [] ∧ ∀ (j : Nat) t, fn.params[j]? = some t → Tryd.pinned.checked.prog.wantsStandIn t = false := by
  obtain rfl : f = 6 := Option.some.inj ((show Tryd.prog.funcNamed "hindcast/hindcastlaw11.FoldHistory" = some 6 by kernel_rfl).symm.trans hf) |>.symm
  obtain rfl : fn = Tryd.f6 := (Option.some.inj (Tryd.func6.symm.trans hfn)).symm
  refine ⟨by kernel_rfl, fun j t ht => ?_⟩
  rw [Tryd.params6] at ht
  have hm : t ∈ [22, 3, 51] := by simpa using Array.mem_of_getElem? ht
  have hall : ([22, 3, 51].all fun u => !Tryd.prog.wantsStandIn u) = true := by kernel_rfl
  exact (show Tryd.prog.wantsStandIn t = false by simpa using List.all_eq_true.1 hall t hm)

theorem foldHistory_holds : Rows.FoldHistoryCardSaid :=
  Claim7.holds_tied_plain_at .later [] _ _ _ _ foldHistory_said (fun _ h => by cases h) (by kernel_rfl) (fun _ h => by cases h) foldHistory_row_tie rfl ⟨rfl, rfl⟩ (by kernel_rfl) rfl foldHistory_plain (by kernel_rfl)

end Go.Proofs.YtfkkpnfbpolppaaDoor
