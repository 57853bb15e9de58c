/-
  Chapter 25: the law RingPlays: whatever is done with a ring of any size, it answers, and holds, what the document says.
-/
import Derived.Test.YtbbkblolaficdaaDoorRingPure
import Derived.Test.YtbbkblolaficdaaDoorStateRow
import Derived.Test.YtbbkblolaficdaaDoorCards
import Derived.Test.YtbbkblolaficdaaDoorTie
import Derived.Test.YtbbkblolaficdaaDoorLaid
import Derived.Test.YtbbkblolaficdaaDoorWalk
import Derived.Deep.DeepHandedRow
namespace Go.Proofs.YtbbkblolaficdaaDoor
open Go.Proofs.YtbbkblolaficdaaDoor.Eng Go.RowKit Go.ChangeShapes Go.WideShapes Go.ChangeAt
set_option linter.unusedSimpArgs false
set_option linter.unusedVariables false
set_option maxHeartbeats 2000000
set_option maxRecDepth 20000

variable {F : Nat}

/-- The document's ring holds what the program's holds. -/
structure RR (r : T_ring_Ring) (x : T_hindcastref25_Ring) (n : Nat) : Prop where
  ri : RI r n
  sz : x.Size = (n : Int)
  pm : x.L.Perm (vals r.places.1)

section
variable {r : T_ring_Ring} {x : T_hindcastref25_Ring} {n : Nat}

theorem rplace_of (hz : x.Size = (n : Int)) (h1 : 1 ≤ n ∧ n ≤ 14) {f : Int} (hf : 0 ≤ f) : m_hindcastref25_Ring_place F x f = some (f % (n : Int)) := by
  unfold m_hindcastref25_Ring_place remI
  rw [hz, wr_u64 ⟨by omega, by omega⟩, if_neg (by omega), Int.tmod_eq_emod_of_nonneg hf]
  rfl

/-- Is it another place's? -/
def apart (n : Nat) (s t : T_api_State) : Bool := t.Frame % (n : Int) != s.Frame % (n : Int)
theorem rput_loop (hz : x.Size = (n : Int)) (h1 : 1 ≤ n ∧ n ≤ 14) {s : T_api_State} (hs : 0 ≤ s.Frame) (hL : ∀ t ∈ x.L, 0 ≤ t.Frame) (hl : x.L.length ≤ 100) : ∀ (m i : Nat) (acc : List T_api_State), x.L.length - i < m → i ≤ x.L.length → acc.length ≤ i →
    m_hindcastref25_Ring_Put_L16 F x s m acc (i : Int) = some (if (x.L.drop i).any (fun t => !apart n s t && decide (s.Frame < t.Frame)) then .inr (x, false) else .inl (false, acc ++ (x.L.drop i).filter (apart n s)))
  | 0, i, acc, h, _, _ => by omega
  | m + 1, i, acc, h, hi, ha => by
    rw [m_hindcastref25_Ring_Put_L16.eq_2]
    by_cases hlt : i < x.L.length
    · have hx : x.L[i]? = some x.L[i] := List.getElem?_eq_getElem hlt
      have w1 : IntKind.wrap .i64 ((i : Int) + 1) = ((i + 1 : Nat) : Int) := by rw [wr_i64 ⟨by omega, by omega⟩]; omega
      have hd : x.L.drop i = x.L[i] :: x.L.drop (i + 1) := by rw [List.getElem_cons_drop]
      have hap : appI acc [x.L[i]] = some (acc ++ [x.L[i]]) := appI_of (by simp; omega)
      have hnn : 0 ≤ x.L[i].Frame := hL _ (List.getElem_mem hlt)
      rw [decide_eq_true (show (i : Int) < (x.L.length : Int) by omega), cond_true]
      simp only [getI_nat, hx, Option.bind_some, rplace_of (F := F) hz h1 hnn, rplace_of (F := F) hz h1 hs, w1, hap, hd, List.any_cons, List.filter_cons]
      have i1 := rput_loop hz h1 hs hL hl m (i + 1) (acc ++ [x.L[i]]) (by omega) (by omega) (by simp; omega)
      have i2 := rput_loop hz h1 hs hL hl m (i + 1) acc (by omega) (by omega) (by omega)
      rw [i1, i2]
      generalize x.L[i] = t
      unfold apart
      cases hc : (t.Frame % (n : Int) != s.Frame % (n : Int)) with
      | true => simp [List.append_assoc]
      | false =>
        by_cases h2 : s.Frame < t.Frame
        · simp [h2]
        · simp [h2]
    · rw [decide_eq_false (show ¬ (i : Int) < (x.L.length : Int) by omega), cond_false, List.drop_of_length_le (by omega)]
      simp

theorem rat_loop {a : T_hindcastlaw25_Act} (hl : x.L.length ≤ 100) (d0 d1 : Int) (d2 : T_api_Player × T_api_Player) (d3 : List T_api_Shot) (d4 : Int × Int) : ∀ (m i : Nat), x.L.length - i < m → i ≤ x.L.length →
    m_hindcastlaw25_one_L100006 F x a m (i : Int) d0 d1 d2 d3 d4 = some (match (x.L.drop i).find? (fun t => t.Frame == a.F) with | some t => .inr (true, t.Frame, t.Seed, t.Players, t.Shots, t.Score) | none => .inl (d0, d1, d2, d3, d4))
  | 0, i, h, _ => by omega
  | m + 1, i, h, hi => by
    rw [m_hindcastlaw25_one_L100006.eq_2]
    by_cases hlt : i < x.L.length
    · have hx : x.L[i]? = some x.L[i] := List.getElem?_eq_getElem hlt
      have w1 : IntKind.wrap .i64 ((i : Int) + 1) = ((i + 1 : Nat) : Int) := by rw [wr_i64 ⟨by omega, by omega⟩]; omega
      have hd : x.L.drop i = x.L[i] :: x.L.drop (i + 1) := by rw [List.getElem_cons_drop]
      rw [decide_eq_true (show (i : Int) < (x.L.length : Int) by omega), cond_true]
      simp only [getI_nat, hx, Option.bind_some, w1, hd, List.find?_cons]
      rw [rat_loop hl d0 d1 d2 d3 d4 m (i + 1) (by omega) (by omega)]
      generalize x.L[i] = t
      cases hc : (t.Frame == a.F) <;> rfl
    · rw [decide_eq_false (show ¬ (i : Int) < (x.L.length : Int) by omega), cond_false, List.drop_of_length_le (by omega)]
      rfl

theorem rnew_loop (hl : x.L.length ≤ 100) : ∀ (m i : Nat) (b : Int), x.L.length - i < m → i ≤ x.L.length → ((b = -1 ∧ i = 0) ∨ ∃ (k : Nat) (t : T_api_State), b = (k : Int) ∧ x.L[k]? = some t ∧ ∀ u ∈ x.L.take i, u.Frame ≤ t.Frame) →
    ∃ c, m_hindcastlaw25_one_L200008 F x m b (i : Int) = some c ∧ ((c = -1 ∧ x.L = []) ∨ ∃ (k : Nat) (t : T_api_State), c = (k : Int) ∧ x.L[k]? = some t ∧ ∀ u ∈ x.L, u.Frame ≤ t.Frame)
  | 0, i, b, h, _, _ => by omega
  | m + 1, i, b, h, hi, hb => by
    rw [m_hindcastlaw25_one_L200008.eq_2]
    by_cases hlt : i < x.L.length
    · have hx : x.L[i]? = some x.L[i] := List.getElem?_eq_getElem hlt
      have w1 : IntKind.wrap .i64 ((i : Int) + 1) = ((i + 1 : Nat) : Int) := by rw [wr_i64 ⟨by omega, by omega⟩]; omega
      have htk : x.L.take (i + 1) = x.L.take i ++ [x.L[i]] := by rw [List.take_add_one, hx]; rfl
      rw [decide_eq_true (show (i : Int) < (x.L.length : Int) by omega), cond_true]
      rcases hb with ⟨rfl, rfl⟩ | ⟨k, t, rfl, hk, ht⟩
      · simp only [show decide ((-1 : Int) < 0) = true from rfl, cond_true, Option.bind_some, w1]
        exact rnew_loop hl m (0 + 1) _ (by omega) (by omega) (.inr ⟨0, _, rfl, hx, by rw [htk]; simp⟩)
      · rw [decide_eq_false (show ¬ (k : Int) < 0 by omega)]
        simp only [cond_false, getI_nat, hx, hk, Option.bind_some, w1]
        by_cases hc : t.Frame < x.L[i].Frame
        · rw [decide_eq_true hc, cond_true]
          refine rnew_loop hl m (i + 1) _ (by omega) (by omega) (.inr ⟨i, _, rfl, hx, fun u hu => ?_⟩)
          rw [htk] at hu
          rcases List.mem_append.1 hu with hu | hu
          · have := ht u hu; omega
          · rw [List.mem_singleton.1 hu]; exact Int.le_refl _
        · rw [decide_eq_false hc, cond_false]
          refine rnew_loop hl m (i + 1) _ (by omega) (by omega) (.inr ⟨k, t, rfl, hk, fun u hu => ?_⟩)
          rw [htk] at hu
          rcases List.mem_append.1 hu with hu | hu
          · exact ht u hu
          · rw [List.mem_singleton.1 hu]; omega
    · rw [decide_eq_false (show ¬ (i : Int) < (x.L.length : Int) by omega), cond_false]
      refine ⟨_, rfl, ?_⟩
      rcases hb with ⟨rfl, rfl⟩ | ⟨k, t, rfl, hk, ht⟩
      · exact .inl ⟨rfl, List.eq_nil_of_length_eq_zero (by omega)⟩
      · rw [List.take_of_length_le (by omega)] at ht
        exact .inr ⟨k, t, rfl, hk, ht⟩

theorem rcut_loop {a : Int} (hl : x.L.length ≤ 100) : ∀ (m i : Nat) (acc : List T_api_State), x.L.length - i < m → i ≤ x.L.length → acc.length ≤ i →
    m_hindcastref25_Ring_Cut_L8 F x a m acc (i : Int) = some (acc ++ (x.L.drop i).filter (fun t => decide (t.Frame ≤ a)))
  | 0, i, acc, h, _, _ => by omega
  | m + 1, i, acc, h, hi, ha => by
    rw [m_hindcastref25_Ring_Cut_L8.eq_2]
    by_cases hlt : i < x.L.length
    · have hx : x.L[i]? = some x.L[i] := List.getElem?_eq_getElem hlt
      have w1 : IntKind.wrap .i64 ((i : Int) + 1) = ((i + 1 : Nat) : Int) := by rw [wr_i64 ⟨by omega, by omega⟩]; omega
      have hd : x.L.drop i = x.L[i] :: x.L.drop (i + 1) := by rw [List.getElem_cons_drop]
      have hap : appI acc [x.L[i]] = some (acc ++ [x.L[i]]) := appI_of (by simp; omega)
      rw [decide_eq_true (show (i : Int) < (x.L.length : Int) by omega), cond_true]
      simp only [getI_nat, hx, Option.bind_some, w1, hap, hd, List.filter_cons]
      rw [rcut_loop hl m (i + 1) (acc ++ [x.L[i]]) (by omega) (by omega) (by simp; omega), rcut_loop hl m (i + 1) acc (by omega) (by omega) (by omega)]
      generalize x.L[i] = t
      cases hc : decide (t.Frame ≤ a) <;> simp [List.append_assoc]
    · rw [decide_eq_false (show ¬ (i : Int) < (x.L.length : Int) by omega), cond_false, List.drop_of_length_le (by omega)]
      simp

theorem spoil_loop : ∀ (m i : Nat) (l : List T_api_Shot), l.length - i < m → i ≤ l.length → l.length ≤ 1000 → ∃ l', m_hindcastlaw25_spoil_o0_L5 F m (i : Int) l = some l'
  | 0, i, l, h, _, _ => by omega
  | m + 1, i, l, h, hi, hl => by
    rw [m_hindcastlaw25_spoil_o0_L5.eq_2]
    by_cases hlt : i < l.length
    · have hx : l[i]? = some l[i] := List.getElem?_eq_getElem hlt
      have w1 : IntKind.wrap .i64 ((i : Int) + 1) = ((i + 1 : Nat) : Int) := by rw [wr_i64 ⟨by omega, by omega⟩]; omega
      rw [decide_eq_true (show (i : Int) < (l.length : Int) by omega), cond_true]
      simp only [getI_nat, hx, Option.bind_some, w1]
      exact spoil_loop m (i + 1) _ (by rw [setI_length]; omega) (by rw [setI_length]; omega) (by rw [setI_length]; omega)
    · rw [decide_eq_false (show ¬ (i : Int) < (l.length : Int) by omega), cond_false]
      exact ⟨_, rfl⟩
theorem spoil_of (hF : 1010 ≤ F) {s : T_api_State} (h : s.Shots.length ≤ 1000) : m_hindcastlaw25_spoil_o0 F s = some () := by
  unfold m_hindcastlaw25_spoil_o0
  obtain ⟨l', h'⟩ := spoil_loop (F := F) F 0 s.Shots (by omega) (by omega) h
  rw [show ((0 : Nat) : Int) = 0 from rfl] at h'
  rw [h']
  rfl

theorem few_loop {l : List T_hindcastlaw25_Act} : ∀ (m i : Nat), 90 - i < m → i ≤ 90 → ∃ o, m_hindcastlaw25_few_L6 F l m (i : Int) = some o ∧ (o = .inr false ∨ (o = .inl false ∧ ∀ (k : Nat) a, i ≤ k → k < 90 → l[k]? = some a → a.S.Shots.length ≤ 100))
  | 0, i, h, _ => by omega
  | m + 1, i, h, hi => by
    rw [m_hindcastlaw25_few_L6.eq_2]
    simp only [r_and, Option.bind_some]
    by_cases hc : i < l.length ∧ i < 90
    · have hx : l[i]? = some (l[i]'hc.1) := List.getElem?_eq_getElem hc.1
      have w1 : IntKind.wrap .i64 ((i : Int) + 1) = ((i + 1 : Nat) : Int) := by rw [wr_i64 ⟨by omega, by omega⟩]; omega
      rw [decide_eq_true (show (i : Int) < (l.length : Int) by omega), decide_eq_true (show (i : Int) < 90 by omega)]
      simp only [Bool.and_self, cond_true, getI_nat, hx, Option.bind_some, w1]
      by_cases h2 : (100 : Int) < ((l[i]'hc.1).S.Shots.length : Int)
      · rw [decide_eq_true h2, cond_true]
        exact ⟨_, rfl, .inl rfl⟩
      · rw [decide_eq_false h2, cond_false]
        obtain ⟨o, e, ho⟩ := few_loop (l := l) m (i + 1) (by omega) (by omega)
        refine ⟨o, e, ho.imp id fun ⟨q1, q2⟩ => ⟨q1, fun k a hk h9 ha => ?_⟩⟩
        rcases Nat.lt_or_ge i k with h | h
        · exact q2 k a h h9 ha
        · obtain rfl : k = i := by omega
          rw [hx] at ha
          obtain rfl := Option.some.inj ha
          omega
    · have : (decide ((i : Int) < (l.length : Int)) && decide ((i : Int) < 90)) = false := by
        cases h : (decide ((i : Int) < (l.length : Int)) && decide ((i : Int) < 90)) with
        | false => rfl
        | true => simp only [Bool.and_eq_true, decide_eq_true_eq] at h; omega
      rw [this, cond_false]
      refine ⟨_, rfl, .inr ⟨rfl, fun k a hk h9 ha => ?_⟩⟩
      have := (List.getElem?_eq_some_iff.1 ha).1
      omega
theorem few_of (hF : 100 ≤ F) (l : List T_hindcastlaw25_Act) : ∃ b, m_hindcastlaw25_few F l = some b ∧ (b = true → l.length ≤ 80 ∧ ∀ a ∈ l, a.S.Shots.length ≤ 100) := by
  obtain ⟨o, e, ho⟩ := few_loop (F := F) (l := l) F 0 (by omega) (by omega)
  rw [show ((0 : Nat) : Int) = 0 from rfl] at e
  unfold m_hindcastlaw25_few
  rw [e]
  rcases ho with rfl | ⟨rfl, ho⟩
  · exact ⟨false, rfl, fun h => by cases h⟩
  · refine ⟨decide ((l.length : Int) ≤ 80), rfl, fun h => ?_⟩
    have h8 : l.length ≤ 80 := by have := of_decide_eq_true h; omega
    refine ⟨h8, fun a ha => ?_⟩
    obtain ⟨k, hk⟩ := List.getElem?_of_mem ha
    exact ho k a (by omega) (by have := (List.getElem?_eq_some_iff.1 hk).1; omega) hk

/-! A call of both. -/
theorem rr_mem (H : RR r x n) {t : T_api_State} : t ∈ x.L ↔ t ∈ vals r.places.1 := H.pm.mem_iff
theorem vals_le (P : List T_ring_place) : (vals P).length ≤ P.length := by
  unfold vals
  rw [List.length_map]
  exact List.length_filter_le _ _
theorem rr_len (H : RR r x n) : x.L.length ≤ 14 := by
  rw [H.pm.length_eq]
  have := vals_le r.places.1
  rw [r.places.2] at this
  exact this

theorem apart_take (H : RI r n) {s : T_api_State} (hs : 0 ≤ s.Frame) : (vals (r.places.1.take (s.Frame % (n : Int)).toNat)).filter (apart n s) = vals (r.places.1.take (s.Frame % (n : Int)).toNat) ∧
    (vals (r.places.1.drop ((s.Frame % (n : Int)).toNat + 1))).filter (apart n s) = vals (r.places.1.drop ((s.Frame % (n : Int)).toNat + 1)) := by
  have h1 := H.n1
  have h3 := Int.emod_nonneg s.Frame (show (n : Int) ≠ 0 by omega)
  constructor
  · rw [List.filter_eq_self]
    intro t ht
    obtain ⟨k, y, hk, hi, rfl⟩ := mem_vals.1 ht
    rw [List.getElem?_take] at hk
    split at hk
    · have := (H.pl k y hk hi).1
      simp only [apart, bne_iff_ne, ne_eq]
      omega
    · cases hk
  · rw [List.filter_eq_self]
    intro t ht
    obtain ⟨k, y, hk, hi, rfl⟩ := mem_vals.1 ht
    rw [List.getElem?_drop] at hk
    have := (H.pl _ y hk hi).1
    simp only [apart, bne_iff_ne, ne_eq]
    omega

theorem put_pm (H : RR r x n) {s : T_api_State} (hs : 0 ≤ s.Frame) : (x.L.filter (apart n s) ++ [s]).Perm (vals (putR r n s).places.1) := by
  obtain ⟨y, hy⟩ := slot H.ri s.Frame
  obtain ⟨a1, a2⟩ := apart_take H.ri hs
  have h1 := H.ri.n1
  have h3 := Int.emod_nonneg s.Frame (show (n : Int) ≠ 0 by omega)
  rw [putR_places, vals_set _ hy]
  have hp := H.pm.filter (apart n s)
  rw [vals_at hy, List.filter_append, List.filter_append, a1, a2] at hp
  have hm : (if y.is_ = true then [y.s] else []).filter (apart n s) = [] := by
    cases hi : y.is_ with
    | false => rfl
    | true =>
      have := (H.ri.pl _ y hy hi).1
      simp [apart]
      omega
  rw [hm, List.nil_append] at hp
  simp only [if_true, List.singleton_append]
  exact (hp.append_right [s]).trans (by rw [List.append_assoc]; exact List.Perm.append_left _ List.perm_append_comm)

theorem same_self (hF : 1010 ≤ F) {s : T_api_State} (h : s.Shots.length ≤ 1000) : m_hindcastref08_Same F s s = some true := by
  rw [rsame_of (by omega) (by omega), stE_refl]

theorem one_of (H : RR r x n) (hF : 1010 ≤ F) {a : T_hindcastlaw25_Act} (ha : StOk a.S) (hsh : a.S.Shots.length ≤ 100) (hf : 0 ≤ a.F) : ∃ r' x', m_hindcastlaw25_one F r x a = some (r', x', true) ∧ RR r' x' n := by
  have hri := H.ri
  have h1 := hri.n1
  have hlen := rr_len H
  have hnn : ∀ t ∈ x.L, 0 ≤ t.Frame := fun t ht => (vals_ok hri ((rr_mem H).1 ht)).1.1.1
  unfold m_hindcastlaw25_one
  by_cases w0 : Int.tmod a.What 4 = 0
  · rw [w0]
    simp only [beq_self_eq_true, cond_true, rcopy_of (F := F) (s := a.S) (by omega), Option.bind_some, spoil_of hF (s := a.S) (by omega)]
    obtain ⟨y, hy⟩ := slot hri a.S.Frame
    unfold m_hindcastref25_Ring_Put
    simp only [rcheck_of (F := F) (s := a.S) (by omega) (by omega), Option.bind_some]
    by_cases hg : stGood a.S = true
    · have hloop := rput_loop (F := F) H.sz h1 ha.1.1 hnn (by omega) F 0 [] (by omega) (by omega) (by simp)
      rw [show ((0 : Nat) : Int) = 0 from rfl, List.drop_zero, List.nil_append] at hloop
      simp only [hg, if_true, bne_self_eq_false, cond_false, hloop]
      by_cases hold : y.is_ = true ∧ a.S.Frame < y.s.Frame
      · have hany : x.L.any (fun t => !apart n a.S t && decide (a.S.Frame < t.Frame)) = true := by
          rw [List.any_eq_true]
          refine ⟨y.s, (rr_mem H).2 (mem_vals.2 ⟨_, y, hy, hold.1, rfl⟩), ?_⟩
          have := (hri.pl _ y hy hold.1).1
          have h3 := Int.emod_nonneg a.S.Frame (show (n : Int) ≠ 0 by omega)
          simp only [apart, Bool.and_eq_true, Bool.not_eq_true', decide_eq_true_eq, bne_eq_false_iff_eq]
          exact ⟨by omega, hold.2⟩
        rw [put_old hri ha (by omega) hF hg hy hold.1 hold.2, hany]
        exact ⟨_, _, rfl, H⟩
      · have hany : x.L.any (fun t => !apart n a.S t && decide (a.S.Frame < t.Frame)) = false := by
          rw [Bool.eq_false_iff]
          intro h
          rw [List.any_eq_true] at h
          obtain ⟨t, ht, h2⟩ := h
          simp only [apart, Bool.and_eq_true, Bool.not_eq_true', decide_eq_true_eq, bne_eq_false_iff_eq] at h2
          obtain ⟨z, hz, hzi, rfl⟩ := vals_of hri ((rr_mem H).1 ht)
          rw [h2.1, hy] at hz
          obtain rfl := Option.some.inj hz
          exact hold ⟨hzi, h2.2⟩
        have hap : appI (x.L.filter (apart n a.S)) [a.S] = some (x.L.filter (apart n a.S) ++ [a.S]) := appI_of (by have := List.length_filter_le (apart n a.S) x.L; simp; omega)
        rw [put_new hri ha (by omega) hF hg hy hold, hany]
        simp only [Option.bind_some, if_false, Bool.false_eq_true, orE_l, rcopy_of (F := F) (s := a.S) (by omega), hap, beq_self_eq_true]
        exact ⟨_, _, rfl, put_ri hri ha hg, H.sz, put_pm H ha.1.1⟩
    · rw [Bool.not_eq_true] at hg
      rw [put_bad hri ha (by omega) hF hg]
      simp only [hg, Bool.false_eq_true, if_false, show ((4 : Int) != 0) = true from rfl, cond_true, Option.bind_some]
      exact ⟨_, _, rfl, H⟩
  · by_cases w1 : Int.tmod a.What 4 = 1
    · rw [w1]
      simp only [show ((1 : Int) == 0) = false from rfl, cond_false, beq_self_eq_true, cond_true]
      obtain ⟨y, hy⟩ := slot hri a.F
      have hloop := rat_loop (F := F) (x := x) (a := a) (by omega) 0 0 (⟨0, 0, 0, 0, 0, 0, 0⟩, ⟨0, 0, 0, 0, 0, 0, 0⟩) [] (0, 0) F 0 (by omega) (by omega)
      rw [show ((0 : Nat) : Int) = 0 from rfl, List.drop_zero] at hloop
      rw [at_of hri hf hy]
      simp only [Option.bind_some, hloop]
      by_cases hc : y.is_ = true ∧ y.s.Frame = a.F
      · have hm : y.s ∈ vals r.places.1 := mem_vals.2 ⟨_, y, hy, hc.1, rfl⟩
        have hok := vals_ok hri hm
        have hsl : y.s.Shots.length ≤ 1000 := by have := stGood_leI hok.2; omega
        have hfd : x.L.find? (fun t => t.Frame == a.F) = some y.s := by
          cases hq : x.L.find? (fun t => t.Frame == a.F) with
          | none =>
            have := List.find?_eq_none.1 hq y.s ((rr_mem H).2 hm)
            simp [hc.2] at this
          | some t =>
            have q1 := List.find?_some hq
            have q2 := List.mem_of_find?_eq_some hq
            rw [vals_inj hri hm ((rr_mem H).1 q2) (by rw [hc.2, show t.Frame = a.F by simpa using q1])]
        rw [if_pos hc, hfd]
        have e : (⟨y.s.Frame, y.s.Seed, y.s.Players, y.s.Shots, y.s.Score⟩ : T_api_State) = y.s := rfl
        simp only [orE_r, e, same_self hF hsl, spoil_of hF hsl, Option.bind_some, r_and, beq_self_eq_true, Bool.and_self]
        exact ⟨_, _, rfl, H⟩
      · have hfd : x.L.find? (fun t => t.Frame == a.F) = none := by
          rw [List.find?_eq_none]
          intro t ht h2
          obtain ⟨z, hz, hzi, rfl⟩ := vals_of hri ((rr_mem H).1 ht)
          have h2' : z.s.Frame = a.F := by simpa using h2
          rw [h2', hy] at hz
          obtain rfl := Option.some.inj hz
          exact hc ⟨hzi, h2'⟩
        have hz : m_hindcastref08_Same F zeroS zeroS = some true := same_self hF (by decide)
        have hz' : m_hindcastref08_Same F zeroS (T_api_State.mk 0 0 (⟨0, 0, 0, 0, 0, 0, 0⟩, ⟨0, 0, 0, 0, 0, 0, 0⟩) [] (0, 0)) = some true := hz
        rw [if_neg hc, hfd]
        simp only [orE_l, hz', spoil_of hF (s := zeroS) (by decide), Option.bind_some, r_and, beq_self_eq_true, Bool.and_self]
        exact ⟨_, _, rfl, H⟩
    · by_cases w2 : Int.tmod a.What 4 = 2
      · rw [w2]
        simp only [show ((2 : Int) == 0) = false from rfl, show ((2 : Int) == 1) = false from rfl, cond_false, beq_self_eq_true, cond_true]
        obtain ⟨t, is, e1, e2, e3, e4, e5⟩ := newest_of (F := F) hri (by omega)
        obtain ⟨c, c1, c2⟩ := rnew_loop (F := F) (x := x) (by omega) F 0 (-1) (by omega) (by omega) (.inl ⟨rfl, rfl⟩)
        rw [show ((0 : Nat) : Int) = 0 from rfl] at c1
        rw [e1]
        simp only [Option.bind_some, c1]
        rcases c2 with ⟨rfl, hnil⟩ | ⟨k, u, rfl, hk, hmax⟩
        · have hv : vals r.places.1 = [] := by
            have := H.pm
            rw [hnil] at this
            exact this.nil_eq.symm
          have his : is = false := by
            cases is with
            | false => rfl
            | true => exact absurd hv (e2.1 rfl)
          subst his
          obtain rfl := e4 rfl
          have hz' : m_hindcastref08_Same F zeroS (T_api_State.mk 0 0 (⟨0, 0, 0, 0, 0, 0, 0⟩, ⟨0, 0, 0, 0, 0, 0, 0⟩) [] (0, 0)) = some true := same_self (s := zeroS) hF (by decide)
          simp only [show decide ((-1 : Int) < 0) = true from rfl, cond_true, hz', spoil_of hF (s := zeroS) (by decide), Option.bind_some, r_and, beq_self_eq_true, Bool.and_self]
          exact ⟨_, _, rfl, H⟩
        · have hu : u ∈ x.L := List.mem_of_getElem? hk
          have hv : vals r.places.1 ≠ [] := fun h0 => by
            have := (rr_mem H).1 hu
            rw [h0] at this
            cases this
          have his : is = true := e2.2 hv
          subst his
          have ht := e3 rfl
          have heq : t.Frame = u.Frame := by
            have q1 := e5 u ((rr_mem H).1 hu)
            have q2 := hmax t ((rr_mem H).2 ht)
            omega
          obtain rfl : t = u := vals_inj hri ht ((rr_mem H).1 hu) (by rw [heq])
          have hsl : t.Shots.length ≤ 1000 := by have := stGood_leI (vals_ok hri ht).2; omega
          rw [decide_eq_false (show ¬ (k : Int) < 0 by omega)]
          simp only [cond_false, getI_nat, hk, Option.bind_some, same_self hF hsl, spoil_of hF hsl, r_and, beq_self_eq_true, Bool.and_self]
          exact ⟨_, _, rfl, H⟩
      · have b0 : (Int.tmod a.What 4 == 0) = false := by simpa using w0
        have b1 : (Int.tmod a.What 4 == 1) = false := by simpa using w1
        have b2 : (Int.tmod a.What 4 == 2) = false := by simpa using w2
        simp only [b0, b1, b2, cond_false]
        obtain ⟨r', e1, e2, e3⟩ := cut_of (F := F) hri (by omega) a.F
        have hloop := rcut_loop (F := F) (x := x) (a := a.F) (by omega) F 0 [] (by omega) (by omega) (by simp)
        rw [show ((0 : Nat) : Int) = 0 from rfl, List.drop_zero, List.nil_append] at hloop
        unfold m_hindcastref25_Ring_Cut
        have hpm := H.pm.filter (fun t => decide (t.Frame ≤ a.F))
        have hd := dropped_eq a.F r.places.1
        have hle := List.length_filter_le (fun t => decide (t.Frame ≤ a.F)) x.L
        have hw : IntKind.wrap .i64 ((x.L.length : Int) - ((x.L.filter (fun t => decide (t.Frame ≤ a.F))).length : Int)) = (dropped a.F r.places.1 : Int) := by
          have h2 := hpm.length_eq
          have h3 := H.pm.length_eq
          rw [wr_i64 ⟨by omega, by omega⟩]
          omega
        simp only [e1, hloop, Option.bind_some, hw, beq_self_eq_true]
        exact ⟨_, _, rfl, e2, H.sz, by rw [e3]; exact hpm⟩
end

structure ActOk (a : T_hindcastlaw25_Act) : Prop where
  s : StOk a.S
  f : 0 ≤ a.F

theorem plays_loop (hF : 1010 ≤ F) {l : List T_hindcastlaw25_Act} (hl : l.length ≤ 80) (ho : ∀ a ∈ l, ActOk a) (hs : ∀ a ∈ l, a.S.Shots.length ≤ 100) {n : Nat} : ∀ (m i : Nat) (r : T_ring_Ring) (x : T_hindcastref25_Ring), l.length - i < m → i ≤ l.length → RR r x n →
    ∃ r' x', m_hindcastlaw25_RingPlays_L34 F l m (i : Int) r.size r.places x.Size x.L = some (.inl (false, r', x'))
  | 0, i, r, x, h, _, _ => by omega
  | m + 1, i, r, x, h, hi, H => by
    rw [m_hindcastlaw25_RingPlays_L34.eq_2]
    by_cases hlt : i < l.length
    · have hx : l[i]? = some l[i] := List.getElem?_eq_getElem hlt
      have hm := List.getElem_mem hlt
      have w1 : IntKind.wrap .i64 ((i : Int) + 1) = ((i + 1 : Nat) : Int) := by rw [wr_i64 ⟨by omega, by omega⟩]; omega
      obtain ⟨r', x', e1, H'⟩ := one_of (F := F) H hF (ho _ hm).s (hs _ hm) (ho _ hm).f
      rw [decide_eq_true (show (i : Int) < (l.length : Int) by omega), cond_true]
      have e1' : m_hindcastlaw25_one F (T_ring_Ring.mk r.size r.places) (T_hindcastref25_Ring.mk x.Size x.L) l[i] = _ := e1
      have hb : ((vals r'.places.1).length : Int) = (x'.L.length : Int) := by rw [H'.pm.length_eq]
      simp only [getI_nat, hx, Option.bind_some, e1', Bool.not_true, cond_false, len_of (F := F) H'.ri (by omega), hb, bne_self_eq_false, w1]
      exact plays_loop hF hl ho hs m (i + 1) r' x' (by omega) (by omega) H'
    · rw [decide_eq_false (show ¬ (i : Int) < (l.length : Int) by omega), cond_false]
      exact ⟨_, _, rfl⟩

theorem plays_pure (hF : 1010 ≤ F) (hwk : m_hindcastlaw25_awake F = some true) (p0 : Int) {l : List T_hindcastlaw25_Act} (ho : ∀ a ∈ l, ActOk a) : m_hindcastlaw25_RingPlays F p0 l = some true := by
  unfold m_hindcastlaw25_RingPlays m_hindcastref25_May
  by_cases hp : 1 ≤ p0 ∧ p0 ≤ 14
  · obtain ⟨r, e1, H, hv⟩ := new_of' (F := F) hp
    obtain ⟨b, e2, hb⟩ := few_of (F := F) (by omega) l
    rw [e1]
    simp only [Option.bind_some, poE, decide_eq_true hp.1, decide_eq_true hp.2, cond_true, Bool.not_true, cond_false, e2]
    cases b with
    | false => simp only [Bool.not_false, cond_true, hwk, Option.bind_some]
    | true =>
      obtain ⟨h8, hs⟩ := hb rfl
      obtain ⟨r', x', e3⟩ := plays_loop (F := F) hF h8 ho hs F 0 r ⟨p0, []⟩ (by omega) (by omega) (n := p0.toNat) ⟨H, by simp; omega, by rw [hv]⟩
      rw [show ((0 : Nat) : Int) = 0 from rfl] at e3
      have e3' : m_hindcastlaw25_RingPlays_L34 F l F 0 r.size r.places p0 [] = _ := e3
      simp only [Bool.not_true, cond_false, e3', Option.bind_some, orE_l, hwk]
  · rw [new_none hp]
    have : (cond (decide ((1 : Int) ≤ p0)) (some (decide (p0 ≤ (14 : Int)))) (some false)) = some false := by
      rw [r_and]
      congr 1
      cases h : (decide ((1 : Int) ≤ p0) && decide (p0 ≤ (14 : Int))) with
      | false => rfl
      | true => simp only [Bool.and_eq_true, decide_eq_true_eq] at h; exact absurd h hp
    simp only [Option.bind_some, poE, this, Bool.not_false, cond_true, hwk]

theorem plays_awake : m_hindcastlaw25_awake 1010 = some true := by kernel_rfl


theorem act_rd {W : World} {m : Nat} {cs : List Value} (h : Rdw TT W (m + 5) 58 cs) :
    ∃ p : T_hindcastlaw25_Act × G, cs = cg_T_hindcastlaw25_Act p ∧ (ActOk p.1 ∧ p.2.2.1 = (sh_T_hindcastlaw25_Act p.1).length ∧ p.2.2.1 ≤ p.2.2.2 ∧ Rds W [] [] p.2.1 (flat c_T_api_Shot (sh_T_hindcastlaw25_Act p.1)) ∧ (p.2.1 = none → p.2.2.2 = 0)) := by
  obtain ⟨hl, hf⟩ := rd_struct h rfl
  match cs, hl with
  | [c0, c1, c2, c3, c4, c5, c6, c7, c8, c9, c10, c11, c12, c13, c14, c15, c16, c17, c18, c19, c20], _ =>
    obtain ⟨w, rfl, ww⟩ := rd_cell (hf (5, 0) (by simp)) rfl
    have hS : Rdw TT W (m + 4) 30 [c1, c2, c3, c4, c5, c6, c7, c8, c9, c10, c11, c12, c13, c14, c15, c16, c17, c18, c19] := hf (30, 1) (by simp)
    obtain ⟨f, rfl, wf⟩ := rd_cell (hf (22, 20) (by simp)) rfl
    obtain ⟨s, a, n, cap, hc, hn, hcap, hr, hok, hz⟩ := state_rdz hS
    refine ⟨(⟨w, s, f⟩, (a, n, cap)), ?_, ⟨hok, (wf_u64 wf).1⟩, hn, hcap, hr, hz⟩
    simp only [List.cons.injEq, and_true] at hc
    obtain ⟨rfl, rfl, rfl, rfl, rfl, rfl, rfl, rfl, rfl, rfl, rfl, rfl, rfl, rfl, rfl, rfl, rfl, rfl, rfl⟩ := hc
    rfl

theorem ringPlays_walk (W : World) (hG : Rds W [] [] (some ⟨0, 0, none⟩) (flat (fun _ : Unit => gl_state_playerBounds) [()]) ∧ Rds W [] [] (some ⟨1, 0, none⟩) (flat (fun _ : Unit => gl_state_shotBounds) [()]))
    (v0 v1 : Value) (R0 : Rdw TT W 8 3 [v0]) (R1 : Rdw TT W 8 50 [v1]) :
    Calls Tryd.prog 4 #[v0, v1] W fun e w' => e = .returned (.bool true) ∧ Inv W [] w' [] := by
  obtain ⟨p, rfl, wp⟩ := rd_cell R0 rfl
  obtain ⟨a, n, cap, gx, rfl, hn, hc, _, hr, hok⟩ := rd_list (enc := cg_T_hindcastlaw25_Act) (ok := fun p => ActOk p.1 ∧ p.2.2.1 = (sh_T_hindcastlaw25_Act p.1).length ∧ p.2.2.1 ≤ p.2.2.2 ∧ Rds W [] [] p.2.1 (flat c_T_api_Shot (sh_T_hindcastlaw25_Act p.1)) ∧ (p.2.1 = none → p.2.2.2 = 0)) R1 rfl rfl cg_T_hindcastlaw25_Act_len (fun es _ h => act_rd h)
  have ho : ∀ a ∈ unG gx, ActOk a := by
    intro a ha
    obtain ⟨q, hq, rfl⟩ := List.mem_map.1 ha
    exact (hok q hq).1
  have hA : AllRd sh_T_hindcastlaw25_Act c_T_api_Shot W [] [] gx := fun q hq => (hok q hq).2
  exact (k_hindcastlaw25_RingPlays (p1g0 := gx) (by rw [unG_length]; exact hn) hc rfl (plays_pure (F := 1010) (by omega) plays_awake p ho)).run W ⟨hr, hA, hG⟩

noncomputable def ringPlays_world (os : Os) : World :=
  { World.holding Tryd.prog os ⟨#[], #[], []⟩ with heap := ((World.holding Tryd.prog os ⟨#[], #[], []⟩).heap.modify 0 fun | .cells _ t frozen => .cells gl_state_playerBounds.toArray t frozen | o => o).modify 1 fun | .cells _ t frozen => .cells gl_state_shotBounds.toArray t frozen | o => o }
theorem ringPlays_laid_met (os : Os) : laidMet Tryd.prog Rows.ringPlaysRow.laid ((ringPlays_world os).forCall (fun _ _ => 0) ⟨#[], #[.int .i64 0, .slice none 0 0], []⟩).memory := laidMet_of_run' 8 (by kernel_rfl) (by kernel_rfl)
theorem ringPlays_reads (os : Os) {H : Type} (enc : TypeId × Value → H) : ∃ places, DataW.whole enc Tryd.prog ((ringPlays_world os).forCall (fun _ _ => 0) ⟨#[], #[.int .i64 0, .slice none 0 0], []⟩).memory Tryd.f4.params.toList Rows.ringPlaysSpec.vars false (#[.int .i64 0, .slice none 0 0] : Array Value).toList 8 = some ([.lit (.int .i64 0), .nil], [], places) := ⟨[], by kernel_rfl⟩
set_option maxRecDepth 100000 in
theorem ringPlays_lifted (os : Os) (started : os.Started) (H : Type) (enc : TypeId × Value → H) (F : Stop.Interp) :
    ReturnsInHanded {} Tryd.checked os 4 .any ((OpenSpec.ofChange Rows.ringPlaysSpec).preRow enc Tryd.prog Tryd.f4 Rows.ringPlaysRow.domain false Rows.ringPlaysRow.laid) (((OpenSpec.ofChange Rows.ringPlaysSpec).at F).post enc Tryd.prog Tryd.f4 false true false false) := by
  obtain ⟨places, hx⟩ := ringPlays_reads os enc
  refine returnsInHanded_of_row (C := Tryd.checked) (s := OpenSpec.ofChange Rows.ringPlaysSpec) (by kernel_rfl) started (by kernel_rfl) Tryd.func4
    (witness_row_at (enc := enc) (C := Tryd.checked) false (ringPlays_world os) #[.int .i64 0, .slice none 0 0] rfl (by kernel_rfl) (by kernel_rfl) (by kernel_rfl)
      (OpenSpec.preRow_of_cond 8 hx (by kernel_rfl) (fun k hk => by cases hk) (by kernel_rfl) (ringPlays_laid_met os))) ?_
  intro W base args ds gs before hval0 hW hcnd hk0 hsz0 hL _ _
  have hG := laid_cells hL
  have hval : ∀ (j : Nat) t v, Tryd.f4.params[j]? = some t → args[j]? = some v → Value.okWide Tryd.prog W .any base t v := hval0
  have hW' := hW
  obtain ⟨p, q, hA0, hV, rfl, hfz, hnd⟩ := hW
  have hA : DataW.TrodAll enc Tryd.prog W 0 (fun _ => true) true Tryd.f4.params.toList args.toList ds p := hA0
  obtain ⟨rfl, rfl⟩ := trodVars_none hV
  have hsz : ∀ x ∈ DataW.weightsEach Tryd.prog Tryd.f4.params.toList ds, x ≤ maxB := by
    have h1 : (DataW.weightsEach Tryd.prog (Tryd.f4.params.toList ++ []) (ds ++ [])).all (· ≤ reachBytes) = true := hsz0
    simp only [List.append_nil] at h1
    intro x hx; have h2 := List.all_eq_true.1 h1 x hx; simp only [decide_eq_true_eq] at h2; exact h2
  rw [Tryd.params4] at hA hval hsz
  have hR := rdw_all tt_ok ctt_ok (closed_of tt_closed) (fun _ => rfl) 8 hA hsz
  have hback := fun (W2 : World) (hb : Below W.heap.size W W2) => trodAll_below (by kernel_rfl : laidOutB Tryd.prog = true) hb (by kernel_rfl) hA
  obtain ⟨v0, vs0, d0, ds0, p0, q0, hargs, rfl, rfl, h0, r0⟩ := trodAll_cons hA
  obtain ⟨v1, vs1, d1, ds1, p1, q1, rfl, rfl, rfl, h1, r1⟩ := trodAll_cons r0
  obtain ⟨rfl, rfl, rfl⟩ := trodAll_nil r1
  obtain rfl : args = #[v0, v1] := by cases args; simp_all
  have R0 := hR 0 3 v0 rfl rfl
  have e0 := val_one tt_ok (t := 3) rfl (by intro h; cases h) rfl (hval 0 3 v0 rfl rfl)
  rw [e0] at R0
  have R1 := hR 1 50 v1 rfl rfl
  have e1 := val_one tt_ok (t := 50) rfl (by intro h; cases h) rfl (hval 1 50 v1 rfl rfl)
  rw [e1] at R1
  clear hval hval0 hsz hsz0 hR hA0
  refine (ringPlays_walk W hG v0 v1 R0 R1).mono fun e W2 ⟨he, hI⟩ => ?_
  subst he
  exact ⟨_, rfl, _, _, _, [], _, [], hW', trodAll_mk1 (shut_bool Tryd.underlying4 _), hback _ (below_of_inv hI), rfl, (below_of_inv hI).frame _, fun h => by cases h⟩

theorem ringPlays_said : Rows.RingPlaysSaid :=
  OpenClaim.holds_of_cond 4 Tryd.f4 rfl rfl rfl rfl rfl rfl rfl ⟨rfl, rfl, rfl, rfl, rfl⟩ rfl rfl rfl rfl rfl (by kernel_rfl) Tryd.func4 (by kernel_rfl)
    (of_decide_eq_true (by kernel_rfl)) (by unfold Func.isWrapper; first | (rw [if_pos (by decide +kernel)]; kernel_rfl) | (rw [if_neg (by decide +kernel)]; exact ⟨rfl, rfl⟩))
    (fun os started H enc _ F => by rw [OpenClaim.pre_eq_preRow]; exact ringPlays_lifted os started H enc F)

theorem ringPlays_plain (f : FuncId) (fn : Func) (hf : Tryd.pinned.checked.prog.funcNamed "hindcast/hindcastlaw25.RingPlays" = some f) (hfn : Tryd.pinned.checked.prog.funcs[f]? = some fn) :
    false = Tryd.pinned.checked.prog.looks [] ∧ ∀ (j : Nat) t, fn.params[j]? = some t → Tryd.pinned.checked.prog.wantsStandIn t = false := by
  obtain rfl : f = 4 := Option.some.inj ((show Tryd.prog.funcNamed "hindcast/hindcastlaw25.RingPlays" = some 4 by kernel_rfl).symm.trans hf) |>.symm
  obtain rfl : fn = Tryd.f4 := (Option.some.inj (Tryd.func4.symm.trans hfn)).symm
  refine ⟨by kernel_rfl, fun j t ht => ?_⟩
  rw [Tryd.params4] at ht
  have hm : t ∈ [3, 50] := by simpa using Array.mem_of_getElem? ht
  have hall : ([3, 50].all fun u => !Tryd.prog.wantsStandIn u) = true := by kernel_rfl
  exact (show Tryd.prog.wantsStandIn t = false by simpa using List.all_eq_true.1 hall t hm)

theorem ringPlays_holds : Rows.RingPlaysCardSaid :=
  Claim7.holds_tied_plain_at .later [] _ _ _ _ ringPlays_said (fun _ h => by cases h) (by kernel_rfl) (fun _ h => by cases h) ringPlays_row_tie rfl ⟨rfl, rfl⟩ (by kernel_rfl) rfl ringPlays_plain (by kernel_rfl)

end Go.Proofs.YtbbkblolaficdaaDoor
