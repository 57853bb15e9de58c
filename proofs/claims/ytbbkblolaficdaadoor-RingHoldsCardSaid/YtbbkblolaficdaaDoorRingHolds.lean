/-
  Chapter 25: the law RingHolds: of states of frames that follow each other the last ones stand there, as many as the size, as they were put.
-/
import Derived.Test.YtbbkblolaficdaaDoorRingPure
import Derived.Test.YtbbkblolaficdaaDoorStepProg
import Derived.Test.YtbbkblolaficdaaDoorStateRow
import Derived.Test.YtbbkblolaficdaaDoorCards
import Derived.Test.YtbbkblolaficdaaDoorTie
import Derived.Test.YtbbkblolaficdaaDoorLaid
import Derived.Test.YtbbkblolaficdaaDoorWalk
import Derived.Deep.DeepHandedRow
namespace Go.Proofs.YtbbkblolaficdaaDoor
open Go.Proofs.YtbbkblolaficdaaDoor.Eng Go.RowKit Go.ChangeShapes Go.WideShapes Go.ChangeAt
set_option linter.unusedSimpArgs false
set_option linter.unusedVariables false
set_option maxHeartbeats 2000000
set_option maxRecDepth 20000

variable {F : Nat}

/-- States of frames that follow each other. -/
structure Row (f0 : Int) (l : List T_api_State) : Prop where
  fr : ∀ (k : Nat) x, l[k]? = some x → x.Frame = f0 + (k : Int) ∧ StOk x ∧ stGood x = true

theorem row_snoc {f0 : Int} {l : List T_api_State} {x : T_api_State} (h : Row f0 l) (hf : x.Frame = f0 + (l.length : Int)) (h1 : StOk x) (h2 : stGood x = true) : Row f0 (l ++ [x]) := by
  refine ⟨fun k y hk => ?_⟩
  rcases Nat.lt_or_ge k l.length with h3 | h3
  · rw [List.getElem?_append_left h3] at hk
    exact h.fr k y hk
  · rw [List.getElem?_append_right h3] at hk
    rcases Nat.eq_zero_or_pos (k - l.length) with h4 | h4
    · rw [h4] at hk
      obtain rfl : x = y := by simpa using hk
      have : k = l.length := by omega
      subst this
      exact ⟨hf, h1, h2⟩
    · rw [List.getElem?_eq_none (by simp; omega)] at hk
      cases hk

theorem made_loop (hF : 200 ≤ F) {f0 : Int} (h0 : 0 ≤ f0 ∧ f0 ≤ 4611686018427387904) {l : List (Int × Int)} (hl : l.length ≤ 60) : ∀ (m i : Nat) (acc : List T_api_State), l.length - i < m → i ≤ l.length → 1 ≤ acc.length → acc.length ≤ i + 1 → Row f0 acc →
    ∃ all, m_hindcastlaw25_RingHolds_L28 F l m acc (i : Int) = some all ∧ 1 ≤ all.length ∧ all.length ≤ 61 ∧ Row f0 all
  | 0, i, acc, h, _, _, _, _ => by omega
  | m + 1, i, acc, h, hi, ha, hb, H => by
    rw [m_hindcastlaw25_RingHolds_L28.eq_2]
    by_cases hlt : i < l.length
    · have hx : l[i]? = some l[i] := List.getElem?_eq_getElem hlt
      have w1 : IntKind.wrap .i64 ((i : Int) + 1) = ((i + 1 : Nat) : Int) := by rw [wr_i64 ⟨by omega, by omega⟩]; omega
      have w2 : IntKind.wrap .i64 ((acc.length : Int) - 1) = ((acc.length - 1 : Nat) : Int) := by rw [wr_i64 ⟨by omega, by omega⟩]; omega
      have hy : acc[acc.length - 1]? = some (acc[acc.length - 1]'(by omega)) := List.getElem?_eq_getElem _
      obtain ⟨q1, q2, q3⟩ := H.fr _ _ hy
      rw [decide_eq_true (show (i : Int) < (l.length : Int) by omega), cond_true]
      simp only [getI_nat, hx, Option.bind_some, r_and, w1, w2, hy]
      generalize acc[acc.length - 1]'(by omega) = y at hy q1 q2 q3
      generalize l[i] = p
      by_cases hc : p.1 < 64 ∧ p.2 < 64
      · have hst := step_of (F := F) (i := p.1) (j := p.2) q2 (by have := stGood_leI q3; omega) hF
        have hsv : stepv y p.1 p.2 = madeOf y p.1 p.2 := by unfold stepv; rw [if_pos ⟨q3, hc.1, hc.2⟩]
        have hap : appI acc [stepv y p.1 p.2] = some (acc ++ [stepv y p.1 p.2]) := appI_of (by simp; omega)
        rw [decide_eq_true hc.1, decide_eq_true hc.2]
        have hst' : m_step_Step F y p = some (stepv y p.1 p.2) := hst
        simp only [Bool.and_self, cond_true, hst', hap, Option.bind_some]
        refine made_loop hF h0 hl m (i + 1) _ (by omega) (by omega) (by simp) (by simp; omega) (row_snoc H ?_ (step_ok q2) (step_good q2 q3))
        rw [hsv]
        show IntKind.wrap .u64 (y.Frame + 1) = _
        rw [q1, wr_u64 ⟨by omega, by omega⟩]
        omega
      · have : (decide (p.1 < 64) && decide (p.2 < 64)) = false := by
          cases h : (decide (p.1 < 64) && decide (p.2 < 64)) with
          | false => rfl
          | true => simp only [Bool.and_eq_true, decide_eq_true_eq] at h; exact absurd h hc
        rw [this, cond_false]
        exact made_loop hF h0 hl m (i + 1) acc (by omega) (by omega) ha (by omega) H
    · rw [decide_eq_false (show ¬ (i : Int) < (l.length : Int) by omega), cond_false]
      exact ⟨acc, rfl, ha, by omega, H⟩

theorem mod_inj {f : Int} {j k n : Nat} (h : (f + (j : Int)) % (n : Int) = (f + (k : Int)) % (n : Int)) (hjk : j < k) (hk : k < j + n) : False := by
  have h1 := Int.emod_emod_of_dvd (f + (k : Int)) (Int.dvd_refl (n : Int))
  have h2 : ((f + (k : Int)) - (f + (j : Int))) % (n : Int) = 0 := Int.emod_eq_emod_iff_emod_sub_eq_zero.1 h.symm
  rw [show (f + (k : Int)) - (f + (j : Int)) = ((k - j : Nat) : Int) by omega, Int.emod_eq_of_lt (by omega) (by omega)] at h2
  omega

/-- The ring behind the first i puts. -/
structure PH (r : T_ring_Ring) (n : Nat) (all : List T_api_State) (f0 : Int) (i : Nat) : Prop where
  ri : RI r n
  old : ∀ t ∈ vals r.places.1, ∃ k, k < i ∧ i ≤ k + n ∧ all[k]? = some t
  new : ∀ k, k < i → i ≤ k + n → ∃ t, all[k]? = some t ∧ r.places.1[((f0 + (k : Int)) % (n : Int)).toNat]? = some ⟨t, true⟩
  len : (vals r.places.1).length = min n i

theorem put_step {r : T_ring_Ring} {n : Nat} {all : List T_api_State} {f0 : Int} {i : Nat} {x : T_api_State} (hF : 1010 ≤ F) (H : PH r n all f0 i) (hR : Row f0 all) (hx : all[i]? = some x) : m_ring_Ring_Put F r x = some (putR r n x, true) ∧ PH (putR r n x) n all f0 (i + 1) := by
  obtain ⟨q1, q2, q3⟩ := hR.fr i x hx
  have h1 := H.ri.n1
  have hsl : x.Shots.length ≤ 1000 := by have := stGood_leI q3; omega
  obtain ⟨y, hy⟩ := slot H.ri x.Frame
  have hyk : y.is_ = true → ∃ k, k < i ∧ i ≤ k + n ∧ all[k]? = some y.s := fun hi => H.old y.s (mem_vals.2 ⟨_, y, hy, hi, rfl⟩)
  have hnew : ¬ (y.is_ = true ∧ x.Frame < y.s.Frame) := by
    rintro ⟨hi, hlt⟩
    obtain ⟨k, k1, _, k3⟩ := hyk hi
    have := (hR.fr k _ k3).1
    omega
  refine ⟨put_new H.ri q2 hsl hF q3 hy hnew, put_ri H.ri q2 q3, ?_, ?_, ?_⟩
  · intro t ht
    rw [putR_places, vals_set _ hy] at ht
    simp only [if_true, List.singleton_append, List.mem_append, List.mem_cons] at ht
    have key : t ∈ vals r.places.1 → t.Frame % (n : Int) ≠ x.Frame % (n : Int) → ∃ k, k < i + 1 ∧ i + 1 ≤ k + n ∧ all[k]? = some t := by
      intro hm hne
      obtain ⟨k, k1, k2, k3⟩ := H.old t hm
      have hk := (hR.fr k t k3).1
      refine ⟨k, by omega, ?_, k3⟩
      rcases Nat.lt_or_ge i (k + n) with h2 | h2
      · omega
      · exfalso
        apply hne
        have : i = k + n := by omega
        rw [hk, q1, this]
        rw [show f0 + ((k + n : Nat) : Int) = f0 + (k : Int) + (n : Int) by omega, Int.add_emod_right]
    have h3 := Int.emod_nonneg x.Frame (show (n : Int) ≠ 0 by omega)
    rcases ht with ht | rfl | ht
    · refine key (by rw [vals_at hy]; exact List.mem_append_left _ ht) ?_
      obtain ⟨k, z, hk, hi, rfl⟩ := mem_vals.1 ht
      rw [List.getElem?_take] at hk
      split at hk
      · have := (H.ri.pl k z hk hi).1
        omega
      · cases hk
    · exact ⟨i, by omega, by omega, hx⟩
    · refine key (by rw [vals_at hy]; exact List.mem_append_right _ (List.mem_append_right _ ht)) ?_
      obtain ⟨k, z, hk, hi, rfl⟩ := mem_vals.1 ht
      rw [List.getElem?_drop] at hk
      have := (H.ri.pl _ z hk hi).1
      omega
  · intro k hk hk2
    rw [putR_places]
    rcases Nat.lt_or_ge k i with h2 | h2
    · obtain ⟨t, t1, t2⟩ := H.new k h2 (by omega)
      refine ⟨t, t1, ?_⟩
      rw [List.getElem?_set, if_neg, t2]
      intro he
      have e1 := Int.emod_nonneg x.Frame (show (n : Int) ≠ 0 by omega)
      have e2 := Int.emod_nonneg (f0 + (k : Int)) (show (n : Int) ≠ 0 by omega)
      rw [q1] at he e1
      exact mod_inj (f := f0) (j := k) (k := i) (n := n) (by omega) h2 (by omega)
    · obtain rfl : k = i := by omega
      refine ⟨x, hx, ?_⟩
      rw [← q1, List.getElem?_set, if_pos rfl, if_pos (List.getElem?_eq_some_iff.1 hy).1]
  · have hl := H.len
    rw [putR_places, vals_set _ hy]
    rw [vals_at hy] at hl
    simp only [if_true, List.length_append, List.length_singleton] at hl ⊢
    rcases Nat.lt_or_ge i n with h2 | h2
    · have : y.is_ = false := by
        cases hi : y.is_ with
        | false => rfl
        | true =>
          exfalso
          obtain ⟨k, k1, k2, k3⟩ := hyk hi
          have hk := (hR.fr k _ k3).1
          have := (H.ri.pl _ y hy hi).1
          have e1 := Int.emod_nonneg x.Frame (show (n : Int) ≠ 0 by omega)
          rw [q1] at this e1
          rw [hk] at this
          exact mod_inj (f := f0) (j := k) (k := i) (n := n) (by omega) k1 (by omega)
      rw [this] at hl
      simp only [Bool.false_eq_true, if_false, List.length_nil] at hl
      omega
    · have : y.is_ = true := by
        obtain ⟨t, t1, t2⟩ := H.new (i - n) (by omega) (by omega)
        have e : (f0 + ((i - n : Nat) : Int)) % (n : Int) = x.Frame % (n : Int) := by
          rw [q1, show f0 + (i : Int) = f0 + ((i - n : Nat) : Int) + (n : Int) by omega, Int.add_emod_right]
        rw [e, hy] at t2
        rw [Option.some.inj t2]
      rw [this] at hl
      simp only [if_true, List.length_singleton] at hl
      omega

theorem puts_loop' {n : Nat} {all : List T_api_State} {f0 : Int} (hF : 1010 ≤ F) (hR : Row f0 all) (hl : all.length ≤ 61) : ∀ (m i : Nat) (r : T_ring_Ring), all.length - i < m → i ≤ all.length → PH r n all f0 i →
    ∃ r' : T_ring_Ring, m_hindcastlaw25_RingHolds_L49 F all m (i : Int) r.size r.places = some (.inl (false, r'.size, r'.places)) ∧ PH r' n all f0 all.length
  | 0, i, r, h, _, _ => by omega
  | m + 1, i, r, h, hi, H => by
    rw [m_hindcastlaw25_RingHolds_L49.eq_2]
    by_cases hlt : i < all.length
    · have hx : all[i]? = some all[i] := List.getElem?_eq_getElem hlt
      have w1 : IntKind.wrap .i64 ((i : Int) + 1) = ((i + 1 : Nat) : Int) := by rw [wr_i64 ⟨by omega, by omega⟩]; omega
      obtain ⟨e1, H'⟩ := put_step hF H hR hx
      have e1' : m_ring_Ring_Put F (T_ring_Ring.mk r.size r.places) all[i] = _ := e1
      rw [decide_eq_true (show (i : Int) < (all.length : Int) by omega), cond_true]
      simp only [getI_nat, hx, Option.bind_some, e1', Bool.not_true, cond_false, w1]
      exact puts_loop' hF hR hl m (i + 1) _ (by omega) (by omega) H'
    · rw [decide_eq_false (show ¬ (i : Int) < (all.length : Int) by omega), cond_false]
      obtain rfl : i = all.length := by omega
      exact ⟨r, rfl, H⟩

theorem same_self' (hF : 1010 ≤ F) {s : T_api_State} (h : s.Shots.length ≤ 1000) : m_state_Same F s s = some true := by
  rw [same_of (by omega) (by omega), stE_refl]

theorem asks_loop {n : Nat} {all : List T_api_State} {f0 p2 : Int} {b : Bool} {r : T_ring_Ring} (hF : 1010 ≤ F) (hR : Row f0 all) (hl : all.length ≤ 61) (h0 : 0 ≤ f0) (H : PH r n all f0 all.length) (hn : IntKind.wrap .i64 ((1 : Int) + (IntKind.wrap .i64 (Int.tmod p2 14))) = (n : Int)) : ∀ (m i : Nat), all.length - i < m → i ≤ all.length →
    m_hindcastlaw25_RingHolds_L70 F p2 all b r.size r.places m (i : Int) = some (.inl b)
  | 0, i, h, _ => by omega
  | m + 1, i, h, hi => by
    rw [m_hindcastlaw25_RingHolds_L70.eq_2]
    have h1 := H.ri.n1
    by_cases hlt : i < all.length
    · have hx : all[i]? = some all[i] := List.getElem?_eq_getElem hlt
      have w1 : IntKind.wrap .i64 ((i : Int) + 1) = ((i + 1 : Nat) : Int) := by rw [wr_i64 ⟨by omega, by omega⟩]; omega
      have w2 : IntKind.wrap .i64 ((i : Int) + (n : Int)) = ((i + n : Nat) : Int) := by rw [wr_i64 ⟨by omega, by omega⟩]; omega
      obtain ⟨q1, q2, q3⟩ := hR.fr i _ hx
      obtain ⟨y, hy⟩ := slot H.ri all[i].Frame
      have e1 := at_of (F := F) H.ri q2.1.1 hy
      have e1' : m_ring_Ring_At F (T_ring_Ring.mk r.size r.places) all[i].Frame = _ := e1
      have hsl : all[i].Shots.length ≤ 1000 := by have := stGood_leI q3; omega
      have ih := asks_loop (b := b) (p2 := p2) hF hR hl h0 H hn m (i + 1) (by omega) (by omega)
      rw [decide_eq_true (show (i : Int) < (all.length : Int) by omega), cond_true]
      unfold m_hindcastlaw25_holds
      simp only [getI_nat, hx, Option.bind_some, hn, w2, w1]
      generalize all[i] = x at hx q1 q2 q3 hy e1 e1' hsl
      rw [e1']
      by_cases hc : all.length ≤ i + n
      · obtain ⟨t, t1, t2⟩ := H.new i hlt hc
        rw [hx] at t1
        obtain rfl := Option.some.inj t1
        rw [← q1, hy] at t2
        obtain rfl := Option.some.inj t2
        rw [decide_eq_true (show (all.length : Int) ≤ ((i + n : Nat) : Int) by omega)]
        simp only [true_and, and_self, if_true, Option.bind_some, bne_self_eq_false, cond_false, cond_true, same_self' hF hsl, Bool.not_true]
        exact ih
      · have hno : ¬ (y.is_ = true ∧ y.s.Frame = x.Frame) := by
          rintro ⟨hi', hf⟩
          obtain ⟨k, k1, k2, k3⟩ := H.old y.s (mem_vals.2 ⟨_, y, hy, hi', rfl⟩)
          have := (hR.fr k _ k3).1
          omega
        rw [if_neg hno, decide_eq_false (show ¬ (all.length : Int) ≤ ((i + n : Nat) : Int) by omega)]
        simp only [Option.bind_some, bne_self_eq_false, cond_false]
        exact ih
    · rw [decide_eq_false (show ¬ (i : Int) < (all.length : Int) by omega), cond_false]

theorem holds_pure (hF : 1010 ≤ F) (hwk : m_hindcastlaw25_awake F = some true) {s : T_api_State} (hs : StOk s) (l : List (Int × Int)) {p2 : Int} (hp : 0 ≤ p2 ∧ p2 ≤ 255) : m_hindcastlaw25_RingHolds F s l p2 = some true := by
  have ht : Int.tmod p2 14 = p2 % 14 := Int.tmod_eq_emod_of_nonneg hp.1
  obtain ⟨n, hn⟩ : ∃ n : Nat, (n : Int) = 1 + p2 % 14 := ⟨(1 + p2 % 14).toNat, by omega⟩
  have w0 : IntKind.wrap .i64 ((1 : Int) + (IntKind.wrap .i64 (Int.tmod p2 14))) = (n : Int) := by
    rw [ht, wr_i64 (x := p2 % 14) ⟨by omega, by omega⟩, wr_i64 ⟨by omega, by omega⟩, hn]
  obtain ⟨r, e1, H, hv⟩ := new_of' (F := F) (p := (n : Int)) ⟨by omega, by omega⟩
  unfold m_hindcastlaw25_RingHolds
  rw [w0, e1]
  simp only [Option.bind_some, poE, r_or, hwk]
  by_cases hb : (100 : Int) < (s.Shots.length : Int) ∨ (60 : Int) < (l.length : Int)
  · have : (decide ((100 : Int) < (s.Shots.length : Int)) || decide ((60 : Int) < (l.length : Int))) = true := by simpa using hb
    rw [this, cond_true]
  · have : (decide ((100 : Int) < (s.Shots.length : Int)) || decide ((60 : Int) < (l.length : Int))) = false := by simp; omega
    rw [this, cond_false]
    simp only [check_of (F := F) hs (by omega) (by omega) (by omega), Option.bind_some]
    by_cases hg : stGood s = true ∧ s.Frame ≤ 4611686018427387904
    · rw [hg.1, decide_eq_false (show ¬ 4611686018427387904 < s.Frame by omega)]
      simp only [if_true, bne_self_eq_false, Bool.or_self, cond_false]
      have hr0 : Row s.Frame [s] := ⟨fun k x hk => by
        cases k with
        | zero => obtain rfl : s = x := by simpa using hk
                  exact ⟨by simp, hs, hg.1⟩
        | succ k => simp at hk⟩
      obtain ⟨all, e2, a1, a2, hR⟩ := made_loop (F := F) (by omega) (f0 := s.Frame) ⟨hs.1.1, hg.2⟩ (l := l) (by omega) F 0 [s] (by omega) (by omega) (by simp) (by simp) hr0
      rw [show ((0 : Nat) : Int) = 0 from rfl] at e2
      have hph : PH r n all s.Frame 0 := ⟨by simpa using H, (by rw [hv]; intro t ht; cases ht), (fun k hk => by omega), (by rw [hv]; simp)⟩
      obtain ⟨r', e3, H'⟩ := puts_loop' hF hR a2 F 0 r (by omega) (by omega) hph
      rw [show ((0 : Nat) : Int) = 0 from rfl] at e3
      have e4 := asks_loop (b := false) (p2 := p2) hF hR a2 hs.1.1 H' w0 F 0 (by omega) (by omega)
      rw [show ((0 : Nat) : Int) = 0 from rfl] at e4
      obtain ⟨t, is, n1, n2, n3, n4, n5⟩ := newest_of (F := F) H'.ri (by omega)
      have n1' : m_ring_Ring_Newest F (T_ring_Ring.mk r'.size r'.places) = _ := n1
      have l1 := len_of (F := F) H'.ri (by omega)
      have l1' : m_ring_Ring_Len F (T_ring_Ring.mk r'.size r'.places) = _ := l1
      have hn1 := H'.ri.n1
      obtain ⟨u, u1, u2⟩ := H'.new (all.length - 1) (by omega) (by omega)
      have hu : u ∈ vals r'.places.1 := mem_vals.2 ⟨_, _, u2, rfl, rfl⟩
      have his : is = true := n2.2 (fun h => by rw [h] at hu; cases hu)
      subst his
      obtain ⟨k, k1, k2, k3⟩ := H'.old t (n3 rfl)
      have f1 := (hR.fr _ _ k3).1
      have f2 := (hR.fr _ _ u1).1
      have f3 := n5 u hu
      obtain rfl : k = all.length - 1 := by omega
      rw [u1] at k3
      obtain rfl := Option.some.inj k3
      have hsl : u.Shots.length ≤ 1000 := by have := stGood_leI (hR.fr _ _ u1).2.2; omega
      have w2 : IntKind.wrap .i64 ((all.length : Int) - 1) = ((all.length - 1 : Nat) : Int) := by rw [wr_i64 ⟨by omega, by omega⟩]; omega
      have hmin : ((vals r'.places.1).length : Int) = min (n : Int) (all.length : Int) := by rw [H'.len]; omega
      simp only [e2, Option.bind_some, e3, orE_l, e4, n1', cond_true, w2, getI_nat, u1, same_self' hF hsl, l1', hmin, beq_self_eq_true]
      rfl
    · have : ((if stGood s = true then (0 : Int) else 4) != 0 || decide ((4611686018427387904 : Int) < s.Frame)) = true := by
        by_cases h1 : stGood s = true
        · have : 4611686018427387904 < s.Frame := by
            rcases Int.lt_or_le 4611686018427387904 s.Frame with h2 | h2
            · exact h2
            · exact absurd ⟨h1, h2⟩ hg
          simp [this]
        · simp [h1]
      rw [this, cond_true]

theorem holds_awake : m_hindcastlaw25_awake 1010 = some true := by kernel_rfl

theorem pair_rd {w : World} {m : Nat} {cs : List Value} (h : Rdw TT w (m + 2) 40 cs) : ∃ x : Int × Int, cs = e2 .u8 x := by
  obtain ⟨hl, hf⟩ := rd_arr h rfl
  match cs, hl with
  | [a, b], _ =>
    obtain ⟨x, rfl, wx⟩ := rd_cell (hf 0 (by omega)) rfl
    obtain ⟨y, rfl, wy⟩ := rd_cell (hf 1 (by omega)) rfl
    exact ⟨(x, y), rfl⟩

theorem ringHolds_walk (W : World) (hG : Rds W [] [] (some ⟨0, 0, none⟩) (flat (fun _ : Unit => gl_state_playerBounds) [()]) ∧ Rds W [] [] (some ⟨1, 0, none⟩) (flat (fun _ : Unit => gl_state_shotBounds) [()]))
    (c0 : List Value) (v1 v2 : Value) (R0 : Rdw TT W 8 30 c0) (R1 : Rdw TT W 8 31 [v1]) (R2 : Rdw TT W 8 5 [v2]) :
    Calls Tryd.prog 3 #[.agg c0.toArray, v1, v2] W fun e w' => e = .returned (.bool true) ∧ Inv W [] w' [] := by
  obtain ⟨s, a, n, cap, rfl, hn, hc, hr, hok, hz⟩ := state_rdz R0
  obtain ⟨a1, n1, cap1, xs, rfl, hn1, hc1, _, hr1, _⟩ := rd_list (enc := e2 .u8) (ok := fun _ => True) R1 rfl rfl (e2_len _) (fun es _ h => by
    obtain ⟨x, hx⟩ := pair_rd h
    exact ⟨x, hx, trivial⟩)
  obtain ⟨p2, rfl, w2⟩ := rd_cell R2 rfl
  exact (k_hindcastlaw25_RingHolds (p0 := s) (p1 := xs) hn hc hz hn1 hc1 (holds_pure (F := 1010) (by omega) holds_awake hok xs (wf_u8 w2))).run W ⟨hr, hr1, hG⟩

noncomputable def ringHolds_world (os : Os) : World :=
  { World.holding Tryd.prog os ⟨#[], #[], []⟩ with heap := ((World.holding Tryd.prog os ⟨#[], #[], []⟩).heap.modify 0 fun | .cells _ t frozen => .cells gl_state_playerBounds.toArray t frozen | o => o).modify 1 fun | .cells _ t frozen => .cells gl_state_shotBounds.toArray t frozen | o => o }
theorem ringHolds_laid_met (os : Os) : laidMet Tryd.prog Rows.ringHoldsRow.laid ((ringHolds_world os).forCall (fun _ _ => 0) ⟨#[], #[.agg #[(.int .u64 0), (.int .u64 0), (.int .i32 0), (.int .i32 0), (.int .i32 0), (.int .i32 0), (.int .u8 0), (.int .u8 0), (.int .u8 0), (.int .i32 0), (.int .i32 0), (.int .i32 0), (.int .i32 0), (.int .u8 0), (.int .u8 0), (.int .u8 0), (.slice none 0 0), (.int .u16 0), (.int .u16 0)], .slice none 0 0, .int .u8 0], []⟩).memory := laidMet_of_run' 8 (by kernel_rfl) (by kernel_rfl)
theorem ringHolds_reads (os : Os) {H : Type} (enc : TypeId × Value → H) : ∃ places, DataW.whole enc Tryd.prog ((ringHolds_world os).forCall (fun _ _ => 0) ⟨#[], #[.agg #[(.int .u64 0), (.int .u64 0), (.int .i32 0), (.int .i32 0), (.int .i32 0), (.int .i32 0), (.int .u8 0), (.int .u8 0), (.int .u8 0), (.int .i32 0), (.int .i32 0), (.int .i32 0), (.int .i32 0), (.int .u8 0), (.int .u8 0), (.int .u8 0), (.slice none 0 0), (.int .u16 0), (.int .u16 0)], .slice none 0 0, .int .u8 0], []⟩).memory Tryd.f3.params.toList Rows.ringHoldsSpec.vars false (#[.agg #[(.int .u64 0), (.int .u64 0), (.int .i32 0), (.int .i32 0), (.int .i32 0), (.int .i32 0), (.int .u8 0), (.int .u8 0), (.int .u8 0), (.int .i32 0), (.int .i32 0), (.int .i32 0), (.int .i32 0), (.int .u8 0), (.int .u8 0), (.int .u8 0), (.slice none 0 0), (.int .u16 0), (.int .u16 0)], .slice none 0 0, .int .u8 0] : Array Value).toList 8 = some ([.agg [.lit (.int .u64 0), .lit (.int .u64 0), .agg [.agg [.lit (.int .i32 0), .lit (.int .i32 0), .lit (.int .i32 0), .lit (.int .i32 0), .lit (.int .u8 0), .lit (.int .u8 0), .lit (.int .u8 0)], .agg [.lit (.int .i32 0), .lit (.int .i32 0), .lit (.int .i32 0), .lit (.int .i32 0), .lit (.int .u8 0), .lit (.int .u8 0), .lit (.int .u8 0)]], .nil, .agg [.lit (.int .u16 0), .lit (.int .u16 0)]], .nil, .lit (.int .u8 0)], [], places) := ⟨[], by kernel_rfl⟩
set_option maxRecDepth 100000 in
theorem ringHolds_lifted (os : Os) (started : os.Started) (H : Type) (enc : TypeId × Value → H) (F : Stop.Interp) :
    ReturnsInHanded {} Tryd.checked os 3 .any ((OpenSpec.ofChange Rows.ringHoldsSpec).preRow enc Tryd.prog Tryd.f3 Rows.ringHoldsRow.domain false Rows.ringHoldsRow.laid) (((OpenSpec.ofChange Rows.ringHoldsSpec).at F).post enc Tryd.prog Tryd.f3 false true false false) := by
  obtain ⟨places, hx⟩ := ringHolds_reads os enc
  refine returnsInHanded_of_row (C := Tryd.checked) (s := OpenSpec.ofChange Rows.ringHoldsSpec) (by kernel_rfl) started (by kernel_rfl) Tryd.func3
    (witness_row_at (enc := enc) (C := Tryd.checked) false (ringHolds_world os) #[.agg #[(.int .u64 0), (.int .u64 0), (.int .i32 0), (.int .i32 0), (.int .i32 0), (.int .i32 0), (.int .u8 0), (.int .u8 0), (.int .u8 0), (.int .i32 0), (.int .i32 0), (.int .i32 0), (.int .i32 0), (.int .u8 0), (.int .u8 0), (.int .u8 0), (.slice none 0 0), (.int .u16 0), (.int .u16 0)], .slice none 0 0, .int .u8 0] rfl (by kernel_rfl) (by kernel_rfl) (by kernel_rfl)
      (OpenSpec.preRow_of_cond 8 hx (by kernel_rfl) (fun k hk => by cases hk) (by kernel_rfl) (ringHolds_laid_met os))) ?_
  intro W base args ds gs before hval0 hW hcnd hk0 hsz0 hL _ _
  have hG := laid_cells hL
  have hval : ∀ (j : Nat) t v, Tryd.f3.params[j]? = some t → args[j]? = some v → Value.okWide Tryd.prog W .any base t v := hval0
  have hW' := hW
  obtain ⟨p, q, hA0, hV, rfl, hfz, hnd⟩ := hW
  have hA : DataW.TrodAll enc Tryd.prog W 0 (fun _ => true) true Tryd.f3.params.toList args.toList ds p := hA0
  obtain ⟨rfl, rfl⟩ := trodVars_none hV
  have hsz : ∀ x ∈ DataW.weightsEach Tryd.prog Tryd.f3.params.toList ds, x ≤ maxB := by
    have h1 : (DataW.weightsEach Tryd.prog (Tryd.f3.params.toList ++ []) (ds ++ [])).all (· ≤ reachBytes) = true := hsz0
    simp only [List.append_nil] at h1
    intro x hx; have h2 := List.all_eq_true.1 h1 x hx; simp only [decide_eq_true_eq] at h2; exact h2
  rw [Tryd.params3] at hA hval hsz
  have hR := rdw_all tt_ok ctt_ok (closed_of tt_closed) (fun _ => rfl) 8 hA hsz
  have hback := fun (W2 : World) (hb : Below W.heap.size W W2) => trodAll_below (by kernel_rfl : laidOutB Tryd.prog = true) hb (by kernel_rfl) hA
  obtain ⟨v0, vs0, d0, ds0, p0, q0, hargs, rfl, rfl, h0, r0⟩ := trodAll_cons hA
  obtain ⟨v1, vs1, d1, ds1, p1, q1, rfl, rfl, rfl, h1, r1⟩ := trodAll_cons r0
  obtain ⟨v2, vs2, d2, ds2, p2, q2, rfl, rfl, rfl, h2, r2⟩ := trodAll_cons r1
  obtain ⟨rfl, rfl, rfl⟩ := trodAll_nil r2
  obtain rfl : args = #[v0, v1, v2] := by cases args; simp_all
  have R0 := hR 0 30 v0 rfl rfl
  have e0 := val_agg tt_ok (t := 30) rfl rfl (hval 0 30 v0 rfl rfl)
  generalize v0.cells.toList = c0 at e0 R0
  subst e0
  have R1 := hR 1 31 v1 rfl rfl
  have e1 := val_one tt_ok (t := 31) rfl (by intro h; cases h) rfl (hval 1 31 v1 rfl rfl)
  rw [e1] at R1
  have R2 := hR 2 5 v2 rfl rfl
  have e2 := val_one tt_ok (t := 5) rfl (by intro h; cases h) rfl (hval 2 5 v2 rfl rfl)
  rw [e2] at R2
  clear hval hval0 hsz hsz0 hR hA0
  refine (ringHolds_walk W hG c0 v1 v2 R0 R1 R2).mono fun e W2 ⟨he, hI⟩ => ?_
  subst he
  exact ⟨_, rfl, _, _, _, [], _, [], hW', trodAll_mk1 (shut_bool Tryd.underlying4 _), hback _ (below_of_inv hI), rfl, (below_of_inv hI).frame _, fun h => by cases h⟩

theorem ringHolds_said : Rows.RingHoldsSaid :=
  OpenClaim.holds_of_cond 3 Tryd.f3 rfl rfl rfl rfl rfl rfl rfl ⟨rfl, rfl, rfl, rfl, rfl⟩ rfl rfl rfl rfl rfl (by kernel_rfl) Tryd.func3 (by kernel_rfl)
    (of_decide_eq_true (by kernel_rfl)) (by unfold Func.isWrapper; first | (rw [if_pos (by decide +kernel)]; kernel_rfl) | (rw [if_neg (by decide +kernel)]; exact ⟨rfl, rfl⟩))
    (fun os started H enc _ F => by rw [OpenClaim.pre_eq_preRow]; exact ringHolds_lifted os started H enc F)

theorem ringHolds_plain (f : FuncId) (fn : Func) (hf : Tryd.pinned.checked.prog.funcNamed "hindcast/hindcastlaw25.RingHolds" = some f) (hfn : Tryd.pinned.checked.prog.funcs[f]? = some fn) :
    false = Tryd.pinned.checked.prog.looks [] ∧ ∀ (j : Nat) t, fn.params[j]? = some t → Tryd.pinned.checked.prog.wantsStandIn t = false := by
  obtain rfl : f = 3 := Option.some.inj ((show Tryd.prog.funcNamed "hindcast/hindcastlaw25.RingHolds" = some 3 by kernel_rfl).symm.trans hf) |>.symm
  obtain rfl : fn = Tryd.f3 := (Option.some.inj (Tryd.func3.symm.trans hfn)).symm
  refine ⟨by kernel_rfl, fun j t ht => ?_⟩
  rw [Tryd.params3] at ht
  have hm : t ∈ [30, 31, 5] := by simpa using Array.mem_of_getElem? ht
  have hall : ([30, 31, 5].all fun u => !Tryd.prog.wantsStandIn u) = true := by kernel_rfl
  exact (show Tryd.prog.wantsStandIn t = false by simpa using List.all_eq_true.1 hall t hm)

theorem ringHolds_holds : Rows.RingHoldsCardSaid :=
  Claim7.holds_tied_plain_at .later [] _ _ _ _ ringHolds_said (fun _ h => by cases h) (by kernel_rfl) (fun _ h => by cases h) ringHolds_row_tie rfl ⟨rfl, rfl⟩ (by kernel_rfl) rfl ringHolds_plain (by kernel_rfl)

end Go.Proofs.YtbbkblolaficdaaDoor
