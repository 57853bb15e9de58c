/-
  What a ring of states does, in plain terms: each place has at most one state, of a frame that belongs there.
-/
import Derived.Test.YtkdbpenjkcjimaaGreatDoorStateEq
namespace Go.Proofs.YtkdbpenjkcjimaaGreatDoor
open Go.Proofs.YtkdbpenjkcjimaaGreatDoor.Eng Go.RowKit Go.ChangeShapes Go.WideShapes Go.ChangeAt
set_option linter.unusedSimpArgs false
set_option linter.unusedVariables false
set_option maxHeartbeats 2000000
set_option maxRecDepth 20000

variable {F : Nat}

def zeroS : T_api_State := ⟨0, 0, (⟨0, 0, 0, 0, 0, 0, 0⟩, ⟨0, 0, 0, 0, 0, 0, 0⟩), [], (0, 0)⟩
def vals (P : List T_ring_place) : List T_api_State := (P.filter (·.is_)).map (·.s)

theorem r_or (a b : Bool) : cond a (some true) (some b) = some (a || b) := by cases a <;> rfl
theorem r_and (a b : Bool) : cond a (some b) (some false) = some (a && b) := by cases a <;> rfl

structure RI (r : T_ring_Ring) (n : Nat) : Prop where
  sz : r.size = (n : Int)
  n1 : 1 ≤ n ∧ n ≤ 14
  pl : ∀ (k : Nat) (x : T_ring_place), r.places.1[k]? = some x → x.is_ = true → x.s.Frame % (n : Int) = (k : Int) ∧ StOk x.s ∧ stGood x.s = true

theorem mem_vals {P : List T_ring_place} {t : T_api_State} : t ∈ vals P ↔ ∃ (k : Nat) (x : T_ring_place), P[k]? = some x ∧ x.is_ = true ∧ x.s = t := by
  unfold vals
  simp only [List.mem_map, List.mem_filter]
  constructor
  · rintro ⟨x, ⟨hx, hi⟩, rfl⟩
    obtain ⟨k, hk⟩ := List.getElem?_of_mem hx
    exact ⟨k, x, hk, hi, rfl⟩
  · rintro ⟨k, x, hk, hi, rfl⟩
    exact ⟨x, ⟨List.mem_of_getElem? hk, hi⟩, rfl⟩
theorem vals_append (A B : List T_ring_place) : vals (A ++ B) = vals A ++ vals B := by simp [vals]
theorem vals_one (x : T_ring_place) : vals [x] = if x.is_ then [x.s] else [] := by
  unfold vals
  cases h : x.is_ <;> simp [h]
theorem split_at {P : List T_ring_place} {k : Nat} {x : T_ring_place} (h : P[k]? = some x) : P = P.take k ++ ([x] ++ P.drop (k + 1)) := by
  have hk := (List.getElem?_eq_some_iff.1 h).1
  have e := (List.getElem?_eq_some_iff.1 h).2
  rw [List.singleton_append, ← e, List.getElem_cons_drop, List.take_append_drop]
theorem set_split {P : List T_ring_place} {k : Nat} {x : T_ring_place} (y : T_ring_place) (h : P[k]? = some x) : P.set k y = P.take k ++ ([y] ++ P.drop (k + 1)) := by
  have hk := (List.getElem?_eq_some_iff.1 h).1
  rw [List.set_eq_take_append_cons_drop, if_pos hk]
  rfl
theorem vals_at {P : List T_ring_place} {k : Nat} {x : T_ring_place} (h : P[k]? = some x) : vals P = vals (P.take k) ++ ((if x.is_ then [x.s] else []) ++ vals (P.drop (k + 1))) := by
  conv => lhs; rw [split_at h, vals_append, vals_append, vals_one]
theorem vals_set {P : List T_ring_place} {k : Nat} {x : T_ring_place} (y : T_ring_place) (h : P[k]? = some x) : vals (P.set k y) = vals (P.take k) ++ ((if y.is_ then [y.s] else []) ++ vals (P.drop (k + 1))) := by
  rw [set_split y h, vals_append, vals_append, vals_one]

section
variable {r : T_ring_Ring} {n : Nat}
theorem ri_is (H : RI r n) : m_ring_Ring_is F r = some true := by
  have := H.n1
  unfold m_ring_Ring_is
  rw [H.sz, decide_eq_true (by omega)]
theorem ri_rem (H : RI r n) {f : Int} (hf : 0 ≤ f) : remI f (IntKind.wrap .u64 r.size) = some (((f % (n : Int)).toNat : Nat) : Int) := by
  have h1 := H.n1
  have h2 := Int.emod_nonneg f (show (n : Int) ≠ 0 by omega)
  rw [H.sz, wr_u64 ⟨by omega, by omega⟩]
  unfold remI
  rw [if_neg (by omega), Int.tmod_eq_emod_of_nonneg hf, Int.toNat_of_nonneg h2]
theorem slot (H : RI r n) (f : Int) : ∃ x, r.places.1[(f % (n : Int)).toNat]? = some x := by
  have h1 := H.n1
  have h2 := Int.emod_lt_of_pos f (show (0 : Int) < (n : Int) by omega)
  have h3 := Int.emod_nonneg f (show (n : Int) ≠ 0 by omega)
  have h4 := r.places.2
  exact ⟨_, List.getElem?_eq_getElem (by omega)⟩

theorem copyL_rep {z : T_api_Shot} {l : List T_api_Shot} : copyL (List.replicate l.length z) l = l := by
  unfold copyL
  simp
theorem told_of' {s : T_api_State} (h : s.Shots.length ≤ 1000) : m_ring_told F s = some s := by
  unfold m_ring_told mkI
  rw [if_pos ⟨by omega, by omega⟩]
  simp only [Option.bind_some, Int.toNat_natCast, copyL_rep]

theorem put_bad (H : RI r n) {s : T_api_State} (hs : StOk s) (hl : s.Shots.length ≤ 1000) (hF : 1010 ≤ F) (hg : stGood s = false) : m_ring_Ring_Put F r s = some (r, false) := by
  unfold m_ring_Ring_Put
  simp only [ri_is H, Option.bind_some, Bool.not_true, cond_false, check_of (F := F) hs (by omega) (by omega) (by omega), hg, Bool.false_eq_true, if_false, show ((4 : Int) != 0) = true from rfl, cond_true]

theorem put_old (H : RI r n) {s : T_api_State} (hs : StOk s) (hl : s.Shots.length ≤ 1000) (hF : 1010 ≤ F) (hg : stGood s = true) {x : T_ring_place} (hx : r.places.1[(s.Frame % (n : Int)).toNat]? = some x) (hi : x.is_ = true) (hlt : s.Frame < x.s.Frame) :
    m_ring_Ring_Put F r s = some (r, false) := by
  unfold m_ring_Ring_Put
  simp only [ri_is H, Option.bind_some, Bool.not_true, cond_false, check_of (F := F) hs (by omega) (by omega) (by omega), hg, if_true, show ((0 : Int) != 0) = false from rfl, ri_rem H hs.1.1, getI_nat, hx, r_and, hi, decide_eq_true hlt, Bool.and_self, cond_true, Bool.false_and, cond_false]

def putR (r : T_ring_Ring) (n : Nat) (s : T_api_State) : T_ring_Ring := ⟨r.size, Arr.set r.places (((s.Frame % (n : Int)).toNat : Nat) : Int) ⟨s, true⟩⟩
theorem put_new (H : RI r n) {s : T_api_State} (hs : StOk s) (hl : s.Shots.length ≤ 1000) (hF : 1010 ≤ F) (hg : stGood s = true) {x : T_ring_place} (hx : r.places.1[(s.Frame % (n : Int)).toNat]? = some x) (hn : ¬ (x.is_ = true ∧ s.Frame < x.s.Frame)) :
    m_ring_Ring_Put F r s = some (putR r n s, true) := by
  have h0 : (x.is_ && decide (s.Frame < x.s.Frame)) = false := by
    cases h : (x.is_ && decide (s.Frame < x.s.Frame)) with
    | false => rfl
    | true => simp only [Bool.and_eq_true, decide_eq_true_eq] at h; exact absurd h hn
  unfold m_ring_Ring_Put
  simp only [ri_is H, Option.bind_some, Bool.not_true, cond_false, check_of (F := F) hs (by omega) (by omega) (by omega), hg, if_true, show ((0 : Int) != 0) = false from rfl, ri_rem H hs.1.1, getI_nat, hx, r_and, h0, told_of' hl]
  rfl
theorem putR_places (r : T_ring_Ring) (n : Nat) (s : T_api_State) : (putR r n s).places.1 = r.places.1.set (s.Frame % (n : Int)).toNat ⟨s, true⟩ := rfl
theorem put_ri (H : RI r n) {s : T_api_State} (hs : StOk s) (hg : stGood s = true) : RI (putR r n s) n := by
  have h1 := H.n1
  have h3 := Int.emod_nonneg s.Frame (show (n : Int) ≠ 0 by omega)
  refine ⟨H.sz, H.n1, fun k x hk hi => ?_⟩
  rw [putR_places, List.getElem?_set] at hk
  split at hk
  · rename_i he
    split at hk
    · obtain rfl := Option.some.inj hk
      subst he
      exact ⟨(Int.toNat_of_nonneg h3).symm, hs, hg⟩
    · cases hk
  · exact H.pl k x hk hi

theorem vals_of (H : RI r n) {t : T_api_State} (ht : t ∈ vals r.places.1) : ∃ x, r.places.1[(t.Frame % (n : Int)).toNat]? = some x ∧ x.is_ = true ∧ x.s = t := by
  obtain ⟨k, x, hk, hi, rfl⟩ := mem_vals.1 ht
  obtain ⟨h1, _, _⟩ := H.pl k x hk hi
  refine ⟨x, ?_, hi, rfl⟩
  rw [h1]
  exact hk
theorem vals_ok (H : RI r n) {t : T_api_State} (ht : t ∈ vals r.places.1) : StOk t ∧ stGood t = true := by
  obtain ⟨k, x, hk, hi, rfl⟩ := mem_vals.1 ht
  exact (H.pl k x hk hi).2
/-- No two of a place. -/
theorem vals_inj (H : RI r n) {s t : T_api_State} (hs : s ∈ vals r.places.1) (ht : t ∈ vals r.places.1) (h : s.Frame % (n : Int) = t.Frame % (n : Int)) : s = t := by
  obtain ⟨x, hx, _, rfl⟩ := vals_of H hs
  obtain ⟨y, hy, _, rfl⟩ := vals_of H ht
  rw [h, hy] at hx
  obtain rfl := Option.some.inj hx
  rfl

/-! Len -/
def bestv (b : T_ring_place) (x : T_ring_place) : T_ring_place := if x.is_ && (!b.is_ || decide (b.s.Frame < x.s.Frame)) then x else b
theorem new_loop {P : List T_ring_place} (hP : P.length ≤ 14) : ∀ (m i : Nat) (b : T_ring_place), P.length - i < m → i ≤ P.length →
    m_ring_Ring_Newest_L11 F P m (i : Int) b.s.Frame b.s.Seed b.s.Players b.s.Shots b.s.Score b.is_ = some (((P.drop i).foldl bestv b).s.Frame, ((P.drop i).foldl bestv b).s.Seed, ((P.drop i).foldl bestv b).s.Players, ((P.drop i).foldl bestv b).s.Shots, ((P.drop i).foldl bestv b).s.Score, ((P.drop i).foldl bestv b).is_)
  | 0, i, b, h, _ => by omega
  | m + 1, i, b, h, hi => by
    rw [m_ring_Ring_Newest_L11.eq_2]
    by_cases h1 : i < P.length
    · have hx : P[i]? = some P[i] := List.getElem?_eq_getElem h1
      have w1 : IntKind.wrap .i64 ((i : Int) + 1) = ((i + 1 : Nat) : Int) := by rw [wr_i64 ⟨by omega, by omega⟩]; omega
      have hd : P.drop i = P[i] :: P.drop (i + 1) := by rw [List.getElem_cons_drop]
      rw [decide_eq_true (show (i : Int) < (P.length : Int) by omega), cond_true, hd, List.foldl_cons]
      simp only [getI_nat, hx, Option.bind_some, w1, r_or, r_and]
      generalize P[i] = x
      rw [← new_loop hP m (i + 1) (bestv b x) (by omega) (by omega)]
      unfold bestv
      cases hb : (x.is_ && (!b.is_ || decide (b.s.Frame < x.s.Frame))) <;> rfl
    · rw [decide_eq_false (show ¬ (i : Int) < (P.length : Int) by omega), cond_false, List.drop_of_length_le (by omega)]
      rfl

def zeroP : T_ring_place := ⟨zeroS, false⟩
theorem best_spec : ∀ (P : List T_ring_place) (b : T_ring_place),
    ((P.foldl bestv b).is_ = true ↔ b.is_ = true ∨ vals P ≠ []) ∧ ((P.foldl bestv b) = b ∨ ((P.foldl bestv b).is_ = true ∧ (P.foldl bestv b).s ∈ vals P)) ∧
    (b.is_ = true → b.s.Frame ≤ (P.foldl bestv b).s.Frame) ∧ (∀ t ∈ vals P, t.Frame ≤ (P.foldl bestv b).s.Frame)
  | [], b => by simp [vals]
  | x :: P, b => by
    obtain ⟨h1, h2, h3, h4⟩ := best_spec P (bestv b x)
    rw [List.foldl_cons]
    have hv : vals (x :: P) = (if x.is_ then [x.s] else []) ++ vals P := by rw [← List.singleton_append, vals_append, vals_one]
    cases hx : x.is_ with
    | false =>
      have hb : bestv b x = b := by simp [bestv, hx]
      rw [hb] at h1 h2 h3 h4 ⊢
      rw [hv, hx]
      exact ⟨h1, h2, h3, h4⟩
    | true =>
      rw [hv, hx]
      simp only [if_true, List.singleton_append, List.mem_cons]
      have hbi : (bestv b x).is_ = true := by
        unfold bestv
        split
        · exact hx
        · rename_i hc
          simp [hx] at hc
          exact hc.1
      have hbx : x.s.Frame ≤ (bestv b x).s.Frame := by
        unfold bestv
        split
        · exact Int.le_refl _
        · rename_i hc
          simp [hx] at hc
          exact hc.2
      have hbb : b.is_ = true → b.s.Frame ≤ (bestv b x).s.Frame := by
        intro hb
        unfold bestv
        split
        · rename_i hc
          simp [hx, hb] at hc
          omega
        · exact Int.le_refl _
      have h0 : (P.foldl bestv (bestv b x)).is_ = true := h1.2 (.inl hbi)
      have h5 := h3 hbi
      refine ⟨⟨fun _ => .inr (by simp), fun _ => h0⟩, ?_, fun hb => Int.le_trans (hbb hb) h5, ?_⟩
      · rcases h2 with h2 | ⟨h2, h2'⟩
        · rw [h2]
          unfold bestv
          split
          · exact .inr ⟨hx, .inl rfl⟩
          · exact .inl rfl
        · exact .inr ⟨h2, .inr h2'⟩
      · rintro t (rfl | ht)
        · exact Int.le_trans hbx h5
        · exact h4 t ht

theorem vals_take (H : RI r n) : vals (r.places.1.take n) = vals r.places.1 := by
  have hl := r.places.2
  have h1 := H.n1
  conv => rhs; rw [← List.take_append_drop n r.places.1, vals_append]
  have : vals (r.places.1.drop n) = [] := by
    rw [List.eq_nil_iff_forall_not_mem]
    intro t ht
    obtain ⟨k, x, hk, hi, rfl⟩ := mem_vals.1 ht
    rw [List.getElem?_drop] at hk
    have h2 := (H.pl _ x hk hi).1
    have h3 := Int.emod_lt_of_pos x.s.Frame (show (0 : Int) < (n : Int) by omega)
    omega
  rw [this, List.append_nil]

/-- What is newest, if there is any. -/
theorem newest_of (H : RI r n) (hF : 20 ≤ F) : ∃ t is, m_ring_Ring_Newest F r = some (t, is) ∧ (is = true ↔ vals r.places.1 ≠ []) ∧ (is = true → t ∈ vals r.places.1) ∧ (is = false → t = zeroS) ∧ (∀ u ∈ vals r.places.1, u.Frame ≤ t.Frame) := by
  have hl := r.places.2
  have h1 := H.n1
  have hc : cutI r.places.1 0 r.size = some (r.places.1.take n) := cutI_of (i := 0) (j := n) rfl H.sz (by omega) (by omega) (by simp)
  have hlen : (r.places.1.take n).length = n := by rw [List.length_take]; omega
  have hloop := new_loop (F := F) (P := r.places.1.take n) (by omega) F 0 zeroP (by omega) (by omega)
  obtain ⟨b1, b2, b3, b4⟩ := best_spec (r.places.1.take n) zeroP
  rw [vals_take H] at b1 b2 b4
  rw [show ((0 : Nat) : Int) = 0 from rfl, List.drop_zero] at hloop
  generalize hb : (r.places.1.take n).foldl bestv zeroP = b at hloop b1 b2 b3 b4
  have hsh : b.s.Shots.length ≤ 1000 := by
    rcases b2 with rfl | ⟨_, hm⟩
    · exact Nat.zero_le _
    · have := stGood_leI (vals_ok H hm).2; omega
  refine ⟨b.s, b.is_, ?_, ?_, ?_, ?_, b4⟩
  · unfold m_ring_Ring_Newest
    have hloop' : m_ring_Ring_Newest_L11 F (r.places.1.take n) F (0 : Int) (0 : Int) (0 : Int) ((T_api_Player.mk (0 : Int) (0 : Int) (0 : Int) (0 : Int) (0 : Int) (0 : Int) (0 : Int)), (T_api_Player.mk (0 : Int) (0 : Int) (0 : Int) (0 : Int) (0 : Int) (0 : Int) (0 : Int))) ([] : List T_api_Shot) ((0 : Int), (0 : Int)) false = _ := hloop
    simp only [ri_is H, Option.bind_some, cond_true, hc, hloop']
    have ht := told_of' (F := F) (s := b.s) hsh
    have e : (⟨b.s.Frame, b.s.Seed, b.s.Players, b.s.Shots, b.s.Score⟩ : T_api_State) = b.s := rfl
    simp only [e, ht, Option.bind_some]
  · rw [b1]; simp [zeroP]
  · intro hi
    rcases b2 with rfl | ⟨_, hm⟩
    · cases hi
    · exact hm
  · intro hi
    rcases b2 with rfl | ⟨h2, _⟩
    · rfl
    · rw [h2] at hi; cases hi


/-! Cut -/
def cutP (a : Int) (x : T_ring_place) : T_ring_place := if x.is_ && decide (a < x.s.Frame) then zeroP else x
theorem vals_cut (a : Int) : ∀ P : List T_ring_place, vals (P.map (cutP a)) = (vals P).filter (fun t => decide (t.Frame ≤ a))
  | [] => rfl
  | x :: P => by
    have hv : ∀ (x : T_ring_place) (P : List T_ring_place), vals (x :: P) = (if x.is_ then [x.s] else []) ++ vals P := fun x P => by rw [← List.singleton_append, vals_append, vals_one]
    rw [List.map_cons, hv, hv, vals_cut a P, List.filter_append]
    congr 1
    unfold cutP
    cases hx : x.is_ with
    | false => simp [hx]
    | true =>
      by_cases h : a < x.s.Frame
      · have : ¬ x.s.Frame ≤ a := by omega
        simp [h, zeroP, this]
      · have : x.s.Frame ≤ a := by omega
        simp [h, hx, this]
def dropped (a : Int) (P : List T_ring_place) : Nat := (P.filter (fun x => x.is_ && decide (a < x.s.Frame))).length
theorem dropped_eq (a : Int) : ∀ P : List T_ring_place, dropped a P + ((vals P).filter (fun t => decide (t.Frame ≤ a))).length = (vals P).length
  | [] => rfl
  | x :: P => by
    have hv : ∀ (x : T_ring_place) (P : List T_ring_place), vals (x :: P) = (if x.is_ then [x.s] else []) ++ vals P := fun x P => by rw [← List.singleton_append, vals_append, vals_one]
    have ih := dropped_eq a P
    unfold dropped at *
    rw [hv, List.filter_append, List.length_append, List.length_append, List.filter_cons]
    cases hx : x.is_ with
    | false => simp; omega
    | true =>
      by_cases h : a < x.s.Frame
      · have : ¬ x.s.Frame ≤ a := by omega
        simp [h, this]; omega
      · have : x.s.Frame ≤ a := by omega
        simp [h, this]; omega
theorem cut_loop {P : List T_ring_place} (r : T_ring_Ring) (hr : r.places.1 = P) {a : Int} (hP : P.length = 14) : ∀ (m i c : Nat) (q : Arr T_ring_place 14), 14 - i < m → i ≤ 14 → c ≤ i → q.1 = (P.take i).map (cutP a) ++ P.drop i →
    ∃ q' : Arr T_ring_place 14, m_ring_Ring_Cut_L16 F r a m (c : Int) (i : Int) q = some (((c + dropped a (P.drop i) : Nat) : Int), q') ∧ q'.1 = P.map (cutP a)
  | 0, i, c, q, h, _, _, _ => by omega
  | m + 1, i, c, q, h, hi, hc, hq => by
    rw [m_ring_Ring_Cut_L16.eq_2]
    by_cases h1 : i < 14
    · have hx : P[i]? = some (P[i]'(by omega)) := List.getElem?_eq_getElem _
      have w1 : IntKind.wrap .i64 ((i : Int) + 1) = ((i + 1 : Nat) : Int) := by rw [wr_i64 ⟨by omega, by omega⟩]; omega
      have w2 : IntKind.wrap .i64 ((c : Int) + 1) = ((c + 1 : Nat) : Int) := by rw [wr_i64 ⟨by omega, by omega⟩]; omega
      have hd : P.drop i = P[i]'(by omega) :: P.drop (i + 1) := by rw [List.getElem_cons_drop]
      have htk : P.take (i + 1) = P.take i ++ [P[i]'(by omega)] := by rw [List.take_add_one, hx]; rfl
      have hlt : ((P.take i).map (cutP a)).length = i := by rw [List.length_map, List.length_take]; omega
      have hqi : q.1[i]? = some (P[i]'(by omega)) := by rw [hq, List.getElem?_append_right (by omega), hlt, Nat.sub_self, hd]; rfl
      rw [decide_eq_true (show (i : Int) < 14 by omega), cond_true]
      simp only [getI_nat, hr, hx, Option.bind_some, r_and, w1, w2, hqi]
      rw [hd]
      generalize hX : P[i]'(by omega) = x at hx hqi hd htk
      have hdr : dropped a (x :: P.drop (i + 1)) = (if (x.is_ && decide (a < x.s.Frame)) = true then 1 else 0) + dropped a (P.drop (i + 1)) := by
        unfold dropped
        rw [List.filter_cons]
        split <;> simp <;> omega
      cases hb : (x.is_ && decide (a < x.s.Frame)) with
      | true =>
        rw [cond_true]
        have hcp : cutP a x = zeroP := by simp [cutP, hb]
        obtain ⟨q', e1, e2⟩ := cut_loop (a := a) r hr hP m (i + 1) (c + 1) (Arr.set q (i : Int) zeroP) (by omega) (by omega) (by omega) (by
          show q.1.set i zeroP = _
          rw [hq, List.set_append_right _ _ (by omega), hlt, Nat.sub_self, hd, htk, List.map_append, List.append_assoc]
          simp [hcp])
        refine ⟨q', ?_, e2⟩
        rw [hdr, hb]
        have e1' := e1
        rw [show c + 1 + dropped a (P.drop (i + 1)) = c + (1 + dropped a (P.drop (i + 1))) by omega] at e1'
        exact e1'
      | false =>
        rw [cond_false]
        have hcp : cutP a x = x := by simp [cutP, hb]
        obtain ⟨q', e1, e2⟩ := cut_loop (a := a) r hr hP m (i + 1) c q (by omega) (by omega) (by omega) (by
          rw [hq, hd, htk, List.map_append, List.append_assoc]
          simp [hcp])
        refine ⟨q', ?_, e2⟩
        rw [hdr, hb]
        simpa using e1
    · rw [decide_eq_false (show ¬ (i : Int) < 14 by omega), cond_false]
      refine ⟨q, ?_, ?_⟩
      · rw [List.drop_of_length_le (by omega)]; rfl
      · rw [hq, List.drop_of_length_le (by omega), List.take_of_length_le (by omega), List.append_nil]
theorem cut_of (H : RI r n) (hF : 20 ≤ F) (a : Int) : ∃ r', m_ring_Ring_Cut F r a = some (r', (dropped a r.places.1 : Int)) ∧ RI r' n ∧ vals r'.places.1 = (vals r.places.1).filter (fun t => decide (t.Frame ≤ a)) := by
  obtain ⟨q', e1, e2⟩ := cut_loop (F := F) r rfl (a := a) r.places.2 F 0 0 r.places (by omega) (by omega) (by omega) (by simp)
  rw [show ((0 : Nat) : Int) = 0 from rfl, List.drop_zero, Nat.zero_add] at e1
  refine ⟨⟨r.size, q'⟩, ?_, ⟨H.sz, H.n1, ?_⟩, by rw [show (⟨r.size, q'⟩ : T_ring_Ring).places.1 = q'.1 from rfl, e2, vals_cut]⟩
  · unfold m_ring_Ring_Cut
    simp only [ri_is H, Option.bind_some, Bool.not_true, cond_false, e1]
  · intro k x hk hi
    rw [show (⟨r.size, q'⟩ : T_ring_Ring).places.1 = q'.1 from rfl, e2, List.getElem?_map] at hk
    obtain ⟨y, hy, rfl⟩ := Option.map_eq_some_iff.1 hk
    unfold cutP at hi ⊢
    split at hi
    · cases hi
    · rename_i hc
      rw [if_neg hc]
      exact H.pl k y hy hi

theorem new_of' {p : Int} (h : 1 ≤ p ∧ p ≤ 14) : ∃ r, m_ring_New F p = some (some r) ∧ RI r p.toNat ∧ vals r.places.1 = [] := by
  refine ⟨⟨p, Arr.rep 14 zeroP⟩, ?_, ⟨by simp; omega, by omega, ?_⟩, rfl⟩
  · unfold m_ring_New
    rw [decide_eq_false (by omega), decide_eq_false (by omega)]
    rfl
  · intro k x hk hi
    have hk' : (List.replicate 14 zeroP)[k]? = some x := hk
    rw [List.getElem?_replicate] at hk'
    split at hk'
    · obtain rfl := Option.some.inj hk'
      cases hi
    · cases hk'
theorem new_none {p : Int} (h : ¬ (1 ≤ p ∧ p ≤ 14)) : m_ring_New F p = some none := by
  unfold m_ring_New
  by_cases h1 : p < 1
  · rw [decide_eq_true h1]; rfl
  · rw [decide_eq_false h1, decide_eq_true (by omega)]; rfl
end

end Go.Proofs.YtkdbpenjkcjimaaGreatDoor
