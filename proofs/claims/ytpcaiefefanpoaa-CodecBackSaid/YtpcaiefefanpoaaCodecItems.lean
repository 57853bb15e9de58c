/-
  Chapter 02: items, and what writing and reading one makes, in plain Lean.
-/
import Derived.Test.YtpcaiefefanpoaaCodecBackPure
namespace Go.Proofs.Ytpcaiefefanpoaa
open Go Go.Proofs.Ytpcaiefefanpoaa.Eng
set_option linter.unusedSimpArgs false
set_option linter.unusedVariables false
set_option maxHeartbeats 1000000

variable {F : Nat}

structure ItemOk (x : T_hindcastlaw02_Item) : Prop where
  K : 0 ≤ x.Kind ∧ x.Kind ≤ 255
  N : 0 ≤ x.N ∧ x.N ≤ 18446744073709551615

theorem toB_append (a b : List Int) : toB (a ++ b) = toB a ++ toB b := by simp [toB]
theorem toB_fromB (s : List UInt8) : toB (fromB s) = s := by
  simp only [toB, fromB, List.map_map]
  conv => rhs; rw [← List.map_id s]
  apply List.map_congr_left
  intro b _
  simp
theorem toB_length (a : List Int) : (toB a).length = a.length := by simp [toB]
theorem vb_length : ∀ f n, (vb f n).length ≤ f + 1
  | 0, n => by simp [vb]
  | f + 1, n => by
    have := vb_length f (n / 128)
    unfold vb; split <;> simp <;> omega

/-- What an item's bytes are. -/
def itemB (x : T_hindcastlaw02_Item) : List Int :=
  if Int.tmod x.Kind 7 = 0 then iL (le 1 x.N.toNat) else if Int.tmod x.Kind 7 = 1 then iL (le 2 x.N.toNat) else if Int.tmod x.Kind 7 = 2 then iL (le 4 x.N.toNat)
  else if Int.tmod x.Kind 7 = 3 then iL (le 8 x.N.toNat) else if Int.tmod x.Kind 7 = 4 then iL (le 4 x.N.toNat) else if Int.tmod x.Kind 7 = 5 then iL (vb 9 x.N.toNat)
  else iL (vb 9 x.S.length) ++ fromB x.S

theorem itemB_length (x : T_hindcastlaw02_Item) : (itemB x).length ≤ 10 + x.S.length := by
  have h1 := vb_length 9 x.N.toNat
  have h2 := vb_length 9 x.S.length
  unfold itemB
  split
  · simp [iL, le_length]; omega
  · split
    · simp [iL, le_length]; omega
    · split
      · simp [iL, le_length]; omega
      · split
        · simp [iL, le_length]; omega
        · split
          · simp [iL, le_length]; omega
          · split
            · simp [iL]; omega
            · simp [iL, fromB]; omega

theorem put_of {x : T_hindcastlaw02_Item} (hx : ItemOk x) (hs : x.S.length ≤ 300) {w : T_codec_Writer} (hF : 20 ≤ F) (hb : w.b.length ≤ 500000) : m_hindcastlaw02_put F w x = some ⟨w.b ++ itemB x⟩ := by
  obtain ⟨n, hn⟩ := Int.eq_ofNat_of_zero_le hx.N.1
  have hn2 : n < 18446744073709551616 := by have := hx.N.2; omega
  have e1 : le 1 (n % 256) = le 1 n := le_mod 1 n
  have e2 : le 2 (n % 65536) = le 2 n := le_mod 2 n
  have e4 : le 4 (n % 4294967296) = le 4 n := le_mod 4 n
  have hl : IntKind.wrap .u64 (x.S.length : Int) = ((x.S.length : Nat) : Int) := wr_u64 ⟨by omega, by omega⟩
  have ht : appI (w.b ++ iL (vb 9 x.S.length)) (fromB x.S) = some (w.b ++ iL (vb 9 x.S.length) ++ fromB x.S) := by
    have := vb_length 9 x.S.length
    exact appI_of (by simp [iL, fromB]; omega)
  simp only [m_hindcastlaw02_put, m_codec_Writer_Text, hn, wr_u8m, wr_u16m, wr_u32m, hl]
  rw [U8_of (F := F) (n := n % 256) (by omega) (by omega) (by omega), U16_of (F := F) (n := n % 65536) (by omega) (by omega) (by omega), U32_of (F := F) (n := n % 4294967296) (by omega) (by omega) (by omega),
    U64_of (F := F) hn2 (by omega) (by omega), I32_of (F := F) (n := n % 4294967296) (wr_i32m n) (by omega) (by omega) (by omega), Var_of (F := F) hn2 hF (by omega), Var_of (F := F) (n := x.S.length) (by omega) hF (by omega)]
  simp only [e1, e2, e4, Option.bind_some, ht]
  unfold itemB
  simp only [hn, Int.toNat_natCast]
  by_cases h0 : Int.tmod x.Kind 7 = 0
  · simp [h0]
  · by_cases h1 : Int.tmod x.Kind 7 = 1
    · simp [h1]
    · by_cases h2 : Int.tmod x.Kind 7 = 2
      · simp [h2]
      · by_cases h3 : Int.tmod x.Kind 7 = 3
        · simp [h3]
        · by_cases h4 : Int.tmod x.Kind 7 = 4
          · simp [h4]
          · by_cases h5 : Int.tmod x.Kind 7 = 5
            · simp [h5]
            · simp [h0, h1, h2, h3, h4, h5, beq_eq_false_iff_ne.2 h0, beq_eq_false_iff_ne.2 h1, beq_eq_false_iff_ne.2 h2, beq_eq_false_iff_ne.2 h3, beq_eq_false_iff_ne.2 h4, beq_eq_false_iff_ne.2 h5]

/-- Whether there are few items, and what is known if so. -/
theorem few_loop {l : List T_hindcastlaw02_Item} : ∀ (m i : Nat), 80 - i < m → i ≤ 80 → (∀ j x, j < i → l[j]? = some x → x.S.length ≤ 300) →
    ∃ r, m_hindcastlaw02_few_L6 F l m (i : Int) = some r ∧ (r = .inr false ∨ (r = .inl false ∧ ∀ j x, j < 80 → l[j]? = some x → x.S.length ≤ 300))
  | 0, i, hm, _, _ => by omega
  | m + 1, i, hm, hi, hp => by
    rw [m_hindcastlaw02_few_L6.eq_2]
    by_cases h1 : i < l.length
    · by_cases h2 : i < 80
      · obtain ⟨x, hx⟩ : ∃ x, l[i]? = some x := ⟨_, List.getElem?_eq_getElem h1⟩
        have hw : IntKind.wrap .i64 ((i : Int) + 1) = ((i + 1 : Nat) : Int) := by rw [wr_i64 ⟨by omega, by omega⟩]; omega
        simp only [decide_eq_true (show (i : Int) < (l.length : Int) by omega), decide_eq_true (show (i : Int) < 80 by omega), cond_true, Option.bind_some, getI_nat, hx]
        by_cases h3 : (300 : Int) < (x.S.length : Int)
        · simp only [decide_eq_true h3, cond_true]
          exact ⟨_, rfl, .inl rfl⟩
        · simp only [decide_eq_false h3, cond_false, hw]
          refine few_loop m (i + 1) (by omega) (by omega) (fun j y hj hy => ?_)
          rcases Nat.lt_or_ge j i with h4 | h4
          · exact hp j y h4 hy
          · obtain rfl : j = i := by omega
            obtain rfl := Option.some.inj (hx.symm.trans hy)
            omega
      · simp only [decide_eq_true (show (i : Int) < (l.length : Int) by omega), decide_eq_false (show ¬ (i : Int) < 80 by omega), cond_true, cond_false, Option.bind_some]
        exact ⟨_, rfl, .inr ⟨rfl, fun j y hj hy => hp j y (by omega) hy⟩⟩
    · simp only [decide_eq_false (show ¬ (i : Int) < (l.length : Int) by omega), cond_false, Option.bind_some]
      refine ⟨_, rfl, .inr ⟨rfl, fun j y hj hy => hp j y ?_ hy⟩⟩
      have := (List.getElem?_eq_some_iff.1 hy).1
      omega

theorem few_of (l : List T_hindcastlaw02_Item) (hF : 100 ≤ F) : m_hindcastlaw02_few F l = some false ∨ (m_hindcastlaw02_few F l = some true ∧ l.length ≤ 60 ∧ ∀ x ∈ l, x.S.length ≤ 300) := by
  obtain ⟨r, h1, h2⟩ := few_loop (F := F) (l := l) F 0 (by omega) (by omega) (fun j x hj => by omega)
  simp only [m_hindcastlaw02_few]
  rw [show (0 : Int) = ((0 : Nat) : Int) from rfl, h1]
  rcases h2 with rfl | ⟨rfl, h2⟩
  · exact .inl rfl
  · simp only [Option.bind_some, orE_l]
    by_cases h3 : (l.length : Int) ≤ 60
    · refine .inr ⟨by rw [decide_eq_true h3], by omega, fun x hx => ?_⟩
      obtain ⟨j, hj, rfl⟩ := List.mem_iff_getElem.1 hx
      exact h2 j _ (by omega) (List.getElem?_eq_getElem hj)
    · exact .inl (by rw [decide_eq_false h3])

theorem codec_works : m_hindcastlaw02_works 200 = some true := by kernel_rfl

theorem wr_i32mm (n : Nat) : IntKind.wrap .i32 ((n % 4294967296 : Nat) : Int) = IntKind.wrap .i32 (n : Int) := by
  simp only [IntKind.wrap, IntKind.bits, IntKind.signed]; simp

theorem get_cases {x : T_hindcastlaw02_Item} {P : Prop} (h0 : Int.tmod x.Kind 7 = 0 → P) (h1 : Int.tmod x.Kind 7 = 1 → P) (h2 : Int.tmod x.Kind 7 = 2 → P) (h3 : Int.tmod x.Kind 7 = 3 → P)
    (h4 : Int.tmod x.Kind 7 = 4 → P) (h5 : Int.tmod x.Kind 7 = 5 → P) (h6 : Int.tmod x.Kind 7 ≠ 0 → Int.tmod x.Kind 7 ≠ 1 → Int.tmod x.Kind 7 ≠ 2 → Int.tmod x.Kind 7 ≠ 3 → Int.tmod x.Kind 7 ≠ 4 → Int.tmod x.Kind 7 ≠ 5 → P) : P := by
  by_cases a0 : Int.tmod x.Kind 7 = 0
  · exact h0 a0
  by_cases a1 : Int.tmod x.Kind 7 = 1
  · exact h1 a1
  by_cases a2 : Int.tmod x.Kind 7 = 2
  · exact h2 a2
  by_cases a3 : Int.tmod x.Kind 7 = 3
  · exact h3 a3
  by_cases a4 : Int.tmod x.Kind 7 = 4
  · exact h4 a4
  by_cases a5 : Int.tmod x.Kind 7 = 5
  · exact h5 a5
  exact h6 a0 a1 a2 a3 a4 a5

theorem textv_back {S s r : List UInt8} {a : Nat} (h : S.drop a = bt (vb 9 s.length) ++ (s ++ r)) (ha : a ≤ S.length) (hS : S.length ≤ 1000000) : textv S a 0 = (a + (vb 9 s.length).length + s.length, 0, s) := by
  have hl : S.length - a = (vb 9 s.length).length + (s.length + r.length) := by
    have := congrArg List.length h
    simpa [bt_length] using this
  have hr := readv_back (n := s.length) h (by omega)
  have hd : S.drop (a + (vb 9 s.length).length) = s ++ r := by
    rw [← List.drop_drop, h, List.drop_left' (by rw [bt_length])]
  unfold textv
  rw [hr]
  simp only [ne_eq, not_true_eq_false, if_false, hd]
  rw [if_pos (by omega), List.take_left' rfl]

/-- What was written is read. -/
theorem get_ok {x : T_hindcastlaw02_Item} {S r : List UInt8} {a : Nat} (hx : ItemOk x) (hs : x.S.length ≤ 300) (hF : 20 ≤ F) (ha : a ≤ S.length) (hS : S.length ≤ 1000000) (h : S.drop a = toB (itemB x) ++ r) :
    m_hindcastlaw02_get F (rdr S a 0) x = some (rdr S (a + (itemB x).length) 0, true) := by
  obtain ⟨n, hn⟩ := Int.eq_ofNat_of_zero_le hx.N.1
  have hn2 : n < 18446744073709551616 := by have := hx.N.2; omega
  have e1 : le 1 (n % 256) = le 1 n := le_mod 1 n
  have e2 : le 2 (n % 65536) = le 2 n := le_mod 2 n
  have e4 : le 4 (n % 4294967296) = le 4 n := le_mod 4 n
  have p1 := get8_of (F := F) (e := 0) ha hS (by omega)
  have p2 := get16_of (F := F) (e := 0) ha hS (by omega)
  have p4 := get32_of (F := F) (e := 0) ha hS (by omega)
  have p8 := get64_of (F := F) (e := 0) ha hS (by omega)
  have pv := var_r (F := F) (e := 0) ha hS hF
  have pt := text_r (F := F) (e := 0) ha hS hF
  refine get_cases (x := x) (fun k => ?_) (fun k => ?_) (fun k => ?_) (fun k => ?_) (fun k => ?_) (fun k => ?_) (fun k0 k1 k2 k3 k4 k5 => ?_)
  · have hi : itemB x = iL (le 1 n) := by simp [itemB, k, hn]
    rw [hi] at h ⊢
    have hv := numv_back (k := 1) (n := n % 256) (r := r) ha (by rw [e1]; exact h) (by omega)
    rw [hv] at p1
    simp only [m_hindcastlaw02_get, k, beq_self_eq_true, cond_true, m_codec_Reader_U8, p1, Option.bind_some, hn, wr_u8m, iL_length, le_length]
  · have hi : itemB x = iL (le 2 n) := by simp [itemB, k, hn]
    rw [hi] at h ⊢
    have hv := numv_back (k := 2) (n := n % 65536) (r := r) ha (by rw [e2]; exact h) (by omega)
    rw [hv] at p2
    simp only [m_hindcastlaw02_get, k, show ((1 : Int) == 0) = false from rfl, beq_self_eq_true, cond_true, cond_false, m_codec_Reader_U16, p2, Option.bind_some, hn, wr_u16m, iL_length, le_length]
  · have hi : itemB x = iL (le 4 n) := by simp [itemB, k, hn]
    rw [hi] at h ⊢
    have hv := numv_back (k := 4) (n := n % 4294967296) (r := r) ha (by rw [e4]; exact h) (by omega)
    rw [hv] at p4
    simp only [m_hindcastlaw02_get, k, show ((2 : Int) == 0) = false from rfl, show ((2 : Int) == 1) = false from rfl, beq_self_eq_true, cond_true, cond_false, m_codec_Reader_U32, p4, Option.bind_some, hn, wr_u32m, iL_length, le_length]
  · have hi : itemB x = iL (le 8 n) := by simp [itemB, k, hn]
    rw [hi] at h ⊢
    have hv := numv_back (k := 8) (n := n) (r := r) ha h (by omega)
    rw [hv] at p8
    simp only [m_hindcastlaw02_get, k, show ((3 : Int) == 0) = false from rfl, show ((3 : Int) == 1) = false from rfl, show ((3 : Int) == 2) = false from rfl, beq_self_eq_true, cond_true, cond_false, m_codec_Reader_U64, p8, Option.bind_some, hn, iL_length, le_length]
  · have hi : itemB x = iL (le 4 n) := by simp [itemB, k, hn]
    rw [hi] at h ⊢
    have hv := numv_back (k := 4) (n := n % 4294967296) (r := r) ha (by rw [e4]; exact h) (by omega)
    rw [hv] at p4
    simp only [m_hindcastlaw02_get, k, show ((4 : Int) == 0) = false from rfl, show ((4 : Int) == 1) = false from rfl, show ((4 : Int) == 2) = false from rfl, show ((4 : Int) == 3) = false from rfl, beq_self_eq_true, cond_true, cond_false, m_codec_Reader_I32, p4, Option.bind_some, hn, wr_i32mm, iL_length, le_length]
  · have hi : itemB x = iL (vb 9 n) := by simp [itemB, k, hn]
    rw [hi] at h ⊢
    have hv := readv_back (n := n) (r := r) h hn2
    rw [hv] at pv
    simp only [m_hindcastlaw02_get, k, show ((5 : Int) == 0) = false from rfl, show ((5 : Int) == 1) = false from rfl, show ((5 : Int) == 2) = false from rfl, show ((5 : Int) == 3) = false from rfl, show ((5 : Int) == 4) = false from rfl, beq_self_eq_true, cond_true, cond_false, pv, Option.bind_some, hn, iL_length]
  · have hi : itemB x = iL (vb 9 x.S.length) ++ fromB x.S := by simp [itemB, k0, k1, k2, k3, k4, k5]
    rw [hi] at h ⊢
    have hv := textv_back (S := S) (s := x.S) (r := r) (a := a) (by rw [h, toB_append, toB_fromB, List.append_assoc]; rfl) ha hS
    rw [hv] at pt
    simp only [m_hindcastlaw02_get, beq_eq_false_iff_ne.2 k0, beq_eq_false_iff_ne.2 k1, beq_eq_false_iff_ne.2 k2, beq_eq_false_iff_ne.2 k3, beq_eq_false_iff_ne.2 k4, beq_eq_false_iff_ne.2 k5, cond_false, pt, Option.bind_some, beq_self_eq_true]
    simp [iL_length, fromB, Nat.add_assoc]

theorem rdr_err {S : List UInt8} {a : Nat} {e : Int} (h : e ≠ 0) : rdr S a e = ⟨⟨[], e⟩⟩ := by simp [rdr, h]

theorem get_err {x : T_hindcastlaw02_Item} (hF : 20 ≤ F) : ∃ b, m_hindcastlaw02_get F ⟨⟨[], 10⟩⟩ x = some (⟨⟨[], 10⟩⟩, b) := by
  have e10 : (10 : Int) ≠ 0 := by decide
  have ha : 0 ≤ ([] : List UInt8).length := by simp
  have hS : ([] : List UInt8).length ≤ 1000000 := by simp
  have p1 := get8_of (F := F) (S := []) (a := 0) (e := 10) ha hS (by omega)
  have p2 := get16_of (F := F) (S := []) (a := 0) (e := 10) ha hS (by omega)
  have p4 := get32_of (F := F) (S := []) (a := 0) (e := 10) ha hS (by omega)
  have p8 := get64_of (F := F) (S := []) (a := 0) (e := 10) ha hS (by omega)
  have pv := var_r (F := F) (S := []) (a := 0) (e := 10) ha hS hF
  have pt := text_r (F := F) (S := []) (a := 0) (e := 10) ha hS hF
  have ht : textv [] 0 10 = (0, 10, []) := by unfold textv; rw [readv_err e10]; simp
  rw [numv_err e10, rdr_err e10] at p1 p2 p4 p8
  rw [readv_err e10, rdr_err e10] at pv
  rw [ht, rdr_err e10] at pt
  refine get_cases (x := x) (fun k => ?_) (fun k => ?_) (fun k => ?_) (fun k => ?_) (fun k => ?_) (fun k => ?_) (fun k0 k1 k2 k3 k4 k5 => ?_)
  · simp only [m_hindcastlaw02_get, k, beq_self_eq_true, cond_true, m_codec_Reader_U8, p1, Option.bind_some]; exact ⟨_, rfl⟩
  · simp only [m_hindcastlaw02_get, k, show ((1 : Int) == 0) = false from rfl, beq_self_eq_true, cond_true, cond_false, m_codec_Reader_U16, p2, Option.bind_some]; exact ⟨_, rfl⟩
  · simp only [m_hindcastlaw02_get, k, show ((2 : Int) == 0) = false from rfl, show ((2 : Int) == 1) = false from rfl, beq_self_eq_true, cond_true, cond_false, m_codec_Reader_U32, p4, Option.bind_some]; exact ⟨_, rfl⟩
  · simp only [m_hindcastlaw02_get, k, show ((3 : Int) == 0) = false from rfl, show ((3 : Int) == 1) = false from rfl, show ((3 : Int) == 2) = false from rfl, beq_self_eq_true, cond_true, cond_false, m_codec_Reader_U64, p8, Option.bind_some]; exact ⟨_, rfl⟩
  · simp only [m_hindcastlaw02_get, k, show ((4 : Int) == 0) = false from rfl, show ((4 : Int) == 1) = false from rfl, show ((4 : Int) == 2) = false from rfl, show ((4 : Int) == 3) = false from rfl, beq_self_eq_true, cond_true, cond_false, m_codec_Reader_I32, p4, Option.bind_some]; exact ⟨_, rfl⟩
  · simp only [m_hindcastlaw02_get, k, show ((5 : Int) == 0) = false from rfl, show ((5 : Int) == 1) = false from rfl, show ((5 : Int) == 2) = false from rfl, show ((5 : Int) == 3) = false from rfl, show ((5 : Int) == 4) = false from rfl, beq_self_eq_true, cond_true, cond_false, pv, Option.bind_some]; exact ⟨_, rfl⟩
  · simp only [m_hindcastlaw02_get, beq_eq_false_iff_ne.2 k0, beq_eq_false_iff_ne.2 k1, beq_eq_false_iff_ne.2 k2, beq_eq_false_iff_ne.2 k3, beq_eq_false_iff_ne.2 k4, beq_eq_false_iff_ne.2 k5, cond_false, pt, Option.bind_some]; exact ⟨_, rfl⟩

/-- Where bytes are lacking, that is told. -/
theorem get_torn {x : T_hindcastlaw02_Item} {S : List UInt8} {a t : Nat} (hs : x.S.length ≤ 300) (hF : 20 ≤ F) (ha : a ≤ S.length) (hS : S.length ≤ 1000000) (h : S.drop a = (toB (itemB x)).take t) (ht : t < (itemB x).length) :
    ∃ b, m_hindcastlaw02_get F (rdr S a 0) x = some (⟨⟨[], 10⟩⟩, b) := by
  have e10 : (10 : Int) ≠ 0 := by decide
  have hl : S.length - a = t := by
    have := congrArg List.length h
    rw [List.length_drop, List.length_take, toB_length, Nat.min_eq_left (by omega)] at this
    exact this
  have p1 := get8_of (F := F) (e := 0) ha hS (by omega)
  have p2 := get16_of (F := F) (e := 0) ha hS (by omega)
  have p4 := get32_of (F := F) (e := 0) ha hS (by omega)
  have p8 := get64_of (F := F) (e := 0) ha hS (by omega)
  have pv := var_r (F := F) (e := 0) ha hS hF
  have pt := text_r (F := F) (e := 0) ha hS hF
  refine get_cases (x := x) (fun k => ?_) (fun k => ?_) (fun k => ?_) (fun k => ?_) (fun k => ?_) (fun k => ?_) (fun k0 k1 k2 k3 k4 k5 => ?_)
  · have hi : (itemB x).length = 1 := by simp [itemB, k, iL_length, le_length]
    rw [numv_torn (by omega), rdr_err e10] at p1
    simp only [m_hindcastlaw02_get, k, beq_self_eq_true, cond_true, m_codec_Reader_U8, p1, Option.bind_some]; exact ⟨_, rfl⟩
  · have hi : (itemB x).length = 2 := by simp [itemB, k, iL_length, le_length]
    rw [numv_torn (by omega), rdr_err e10] at p2
    simp only [m_hindcastlaw02_get, k, show ((1 : Int) == 0) = false from rfl, beq_self_eq_true, cond_true, cond_false, m_codec_Reader_U16, p2, Option.bind_some]; exact ⟨_, rfl⟩
  · have hi : (itemB x).length = 4 := by simp [itemB, k, iL_length, le_length]
    rw [numv_torn (by omega), rdr_err e10] at p4
    simp only [m_hindcastlaw02_get, k, show ((2 : Int) == 0) = false from rfl, show ((2 : Int) == 1) = false from rfl, beq_self_eq_true, cond_true, cond_false, m_codec_Reader_U32, p4, Option.bind_some]; exact ⟨_, rfl⟩
  · have hi : (itemB x).length = 8 := by simp [itemB, k, iL_length, le_length]
    rw [numv_torn (by omega), rdr_err e10] at p8
    simp only [m_hindcastlaw02_get, k, show ((3 : Int) == 0) = false from rfl, show ((3 : Int) == 1) = false from rfl, show ((3 : Int) == 2) = false from rfl, beq_self_eq_true, cond_true, cond_false, m_codec_Reader_U64, p8, Option.bind_some]; exact ⟨_, rfl⟩
  · have hi : (itemB x).length = 4 := by simp [itemB, k, iL_length, le_length]
    rw [numv_torn (by omega), rdr_err e10] at p4
    simp only [m_hindcastlaw02_get, k, show ((4 : Int) == 0) = false from rfl, show ((4 : Int) == 1) = false from rfl, show ((4 : Int) == 2) = false from rfl, show ((4 : Int) == 3) = false from rfl, beq_self_eq_true, cond_true, cond_false, m_codec_Reader_I32, p4, Option.bind_some]; exact ⟨_, rfl⟩
  · have hi : itemB x = iL (vb 9 x.N.toNat) := by simp [itemB, k]
    rw [hi] at h ht
    rw [readv_torn ha h (by simpa [iL_length] using ht), rdr_err e10] at pv
    simp only [m_hindcastlaw02_get, k, show ((5 : Int) == 0) = false from rfl, show ((5 : Int) == 1) = false from rfl, show ((5 : Int) == 2) = false from rfl, show ((5 : Int) == 3) = false from rfl, show ((5 : Int) == 4) = false from rfl, beq_self_eq_true, cond_true, cond_false, pv, Option.bind_some]; exact ⟨_, rfl⟩
  · have hi : itemB x = iL (vb 9 x.S.length) ++ fromB x.S := by simp [itemB, k0, k1, k2, k3, k4, k5]
    rw [hi] at h ht
    have hv : ∃ a', textv S a 0 = (a', 10, []) := by
      rw [toB_append, toB_fromB] at h
      have h' : S.drop a = (bt (vb 9 x.S.length) ++ x.S).take t := h
      by_cases htv : t < (vb 9 x.S.length).length
      · rw [List.take_append_of_le_length (by rw [bt_length]; omega)] at h'
        exact ⟨S.length, by unfold textv; rw [readv_torn ha h' htv]; simp⟩
      · rw [List.take_append, bt_length, List.take_of_length_le (by rw [bt_length]; omega)] at h'
        have hr := readv_back (n := x.S.length) h' (by omega)
        have hlt : t < (vb 9 x.S.length).length + x.S.length := by simpa [iL_length, fromB] using ht
        refine ⟨a + (vb 9 x.S.length).length, ?_⟩
        unfold textv
        rw [hr]
        simp only [ne_eq, not_true_eq_false, if_false]
        rw [if_neg (by omega)]
    obtain ⟨a', hv⟩ := hv
    rw [hv, rdr_err e10] at pt
    simp only [m_hindcastlaw02_get, beq_eq_false_iff_ne.2 k0, beq_eq_false_iff_ne.2 k1, beq_eq_false_iff_ne.2 k2, beq_eq_false_iff_ne.2 k3, beq_eq_false_iff_ne.2 k4, beq_eq_false_iff_ne.2 k5, cond_false, pt, Option.bind_some]; exact ⟨_, rfl⟩

def allB (l : List T_hindcastlaw02_Item) : List Int := (l.map itemB).flatten

theorem allB_cons (x : T_hindcastlaw02_Item) (l : List T_hindcastlaw02_Item) : allB (x :: l) = itemB x ++ allB l := rfl
theorem allB_length : ∀ (l : List T_hindcastlaw02_Item), (∀ x ∈ l, x.S.length ≤ 300) → (allB l).length ≤ 310 * l.length
  | [], _ => by simp [allB]
  | x :: l, h => by
    have h1 := itemB_length x
    have h2 := h x (by simp)
    have h3 := allB_length l (fun y hy => h y (by simp [hy]))
    rw [allB_cons, List.length_append, List.length_cons]; omega

end Go.Proofs.Ytpcaiefefanpoaa
