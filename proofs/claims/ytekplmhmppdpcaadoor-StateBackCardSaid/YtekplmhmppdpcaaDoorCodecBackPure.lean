/-
  What is written is read as it was, and what was read is what would be written: bytes of numbers and vars, in plain Lean.
-/
import Derived.Test.YtekplmhmppdpcaaDoorCodecVarPure
namespace Go.Proofs.YtekplmhmppdpcaaDoor
open Go Go.Proofs.YtekplmhmppdpcaaDoor.Eng
set_option linter.unusedSimpArgs false
set_option linter.unusedVariables false
set_option maxHeartbeats 1000000

def bt (l : List Nat) : List UInt8 := toB (iL l)

theorem bt_nil : bt [] = [] := rfl
theorem bt_cons (n : Nat) (l : List Nat) : bt (n :: l) = UInt8.ofNat n :: bt l := by simp [bt, toB, iL]
theorem bt_length (l : List Nat) : (bt l).length = l.length := by simp [bt, toB, iL]
theorem bt_append (a b : List Nat) : bt (a ++ b) = bt a ++ bt b := by simp [bt, toB, iL]

theorem lev_bt_le : ∀ (k n : Nat), lev (bt (le k n)) = n % 256 ^ k
  | 0, n => by simp [le, bt_nil, lev, Nat.mod_one]
  | k + 1, n => by
    have ih := lev_bt_le k (n / 256)
    have hp : 256 ^ (k + 1) = 256 * 256 ^ k := by rw [Nat.pow_succ, Nat.mul_comm]
    have h8 : (UInt8.ofNat (n % 256)).toNat = n % 256 := by rw [UInt8.toNat_ofNat']; omega
    simp only [le, bt_cons, lev, ih, h8]
    rw [hp, Nat.mod_mul]

theorem bt_le_lev : ∀ v : List UInt8, bt (le v.length (lev v)) = v
  | [] => rfl
  | b :: r => by
    have ih := bt_le_lev r
    have hb : b.toNat < 256 := b.toNat_lt
    have h1 : (b.toNat + 256 * lev r) % 256 = b.toNat := by omega
    have h2 : (b.toNat + 256 * lev r) / 256 = lev r := by omega
    simp only [List.length_cons, lev, le, bt_cons, h1, h2, ih, UInt8.ofNat_toNat]

theorem numv_back {S r : List UInt8} {a k n : Nat} (ha : a ≤ S.length) (h : S.drop a = bt (le k n) ++ r) (hn : n < 256 ^ k) : numv S a 0 k = (a + k, 0, n) := by
  have hl : S.length - a = k + r.length := by
    have := congrArg List.length h
    simpa [bt_length, le_length] using this
  have ht : (S.drop a).take k = bt (le k n) := by
    rw [h, List.take_append_of_le_length (by rw [bt_length, le_length]; exact Nat.le_refl _)]
    rw [List.take_of_length_le (by rw [bt_length, le_length]; exact Nat.le_refl _)]
  unfold numv
  rw [if_pos rfl, if_pos (by omega), ht, lev_bt_le, Nat.mod_eq_of_lt hn]

theorem numv_torn {S : List UInt8} {a k : Nat} (h : S.length < a + k) : numv S a 0 k = (a, 10, 0) := by
  unfold numv
  rw [if_pos rfl, if_neg (by omega)]

theorem getElem_of_drop {S r : List UInt8} {a : Nat} {c : UInt8} (h : S.drop a = c :: r) : S[a]? = some c ∧ S.drop (a + 1) = r := by
  constructor
  · rw [← List.head?_drop, h]; rfl
  · rw [← List.drop_drop, h]; rfl

theorem varv_back {S : List UInt8} : ∀ (f a i n0 m : Nat) (r : List UInt8), f + i = 9 → S.drop a = bt (vb f m) ++ r → m * 2 ^ (7 * i) < 2 ^ 64 → (0 < i → m ≠ 0) → m < 128 ^ (f + 1) →
    varv S (f + 1) a i n0 = (a + (vb f m).length, 0, n0 + m * 2 ^ (7 * i))
  | 0, a, i, n0, m, r, hi, h, hm, hz, hlt => by
    obtain rfl : i = 9 := by omega
    have hm1 : m = 1 := by have := hz (by omega); omega
    subst hm1
    have h' : S.drop a = UInt8.ofNat 1 :: r := by rw [h]; rfl
    obtain ⟨h1, h2⟩ := getElem_of_drop h'
    unfold varv
    rw [h1]
    rfl
  | f + 1, a, i, n0, m, r, hi, h, hm, hz, hlt => by
    by_cases h128 : m < 128
    · have hv : vb (f + 1) m = [m] := by simp [vb, h128]
      have h' : S.drop a = UInt8.ofNat m :: r := by rw [h, hv, bt_cons, bt_nil]; rfl
      obtain ⟨h1, h2⟩ := getElem_of_drop h'
      have hc : (UInt8.ofNat m).toNat = m := by rw [UInt8.toNat_ofNat']; omega
      unfold varv
      rw [h1]
      simp only [hc, hv]
      rw [if_neg (by omega), if_neg (by intro hh; exact hz hh.2 hh.1), if_pos h128, Nat.mod_eq_of_lt h128]
      rfl
    · have hv : vb (f + 1) m = (m % 128 + 128) :: vb f (m / 128) := by simp [vb, h128]
      have h' : S.drop a = UInt8.ofNat (m % 128 + 128) :: (bt (vb f (m / 128)) ++ r) := by rw [h, hv, bt_cons]; rfl
      obtain ⟨h1, h2⟩ := getElem_of_drop h'
      have hc : (UInt8.ofNat (m % 128 + 128)).toNat = m % 128 + 128 := by rw [UInt8.toNat_ofNat']; omega
      have hp : 2 ^ (7 * (i + 1)) = 128 * 2 ^ (7 * i) := by rw [show 7 * (i + 1) = 7 + 7 * i by omega, Nat.pow_add]
      have hle : m / 128 * 2 ^ (7 * (i + 1)) ≤ m * 2 ^ (7 * i) := by
        rw [hp, ← Nat.mul_assoc]
        exact Nat.mul_le_mul_right _ (by omega)
      have hlt2 : m / 128 < 128 ^ (f + 1) := by
        rw [Nat.div_lt_iff_lt_mul (by omega)]
        rw [Nat.pow_succ] at hlt; exact hlt
      have ih := varv_back f (a + 1) (i + 1) (n0 + (m % 128 + 128) % 128 * 2 ^ (7 * i)) (m / 128) r (by omega) h2 (by omega) (by omega) hlt2
      unfold varv
      rw [h1]
      simp only [hc]
      rw [if_neg (by omega), if_neg (by omega), if_neg (by omega), ih, hv]
      have e1 : (m % 128 + 128) % 128 = m % 128 := by omega
      have e2 : n0 + m % 128 * 2 ^ (7 * i) + m / 128 * 2 ^ (7 * (i + 1)) = n0 + m * 2 ^ (7 * i) := by
        rw [hp, ← Nat.mul_assoc, Nat.add_assoc, ← Nat.add_mul]
        congr 2; omega
      rw [e1, e2, List.length_cons]
      congr 1; omega

theorem varv_torn {S : List UInt8} : ∀ (f a i n0 m t : Nat), f + i = 9 → a ≤ S.length → S.drop a = (bt (vb f m)).take t → t < (vb f m).length → varv S (f + 1) a i n0 = (S.length, 10, 0)
  | f, a, i, n0, m, 0, hi, ha, h, ht => by
    have hl : S.length - a = 0 := by
      have := congrArg List.length h
      simpa using this
    have hn : S[a]? = none := List.getElem?_eq_none_iff.2 (by omega)
    unfold varv
    rw [hn]
    simp only
    congr 1; omega
  | 0, a, i, n0, m, t + 1, hi, ha, h, ht => by simp [vb] at ht
  | f + 1, a, i, n0, m, t + 1, hi, ha, h, ht => by
    by_cases h128 : m < 128
    · have hv : vb (f + 1) m = [m] := by simp [vb, h128]
      rw [hv] at ht; simp at ht
    · have hv : vb (f + 1) m = (m % 128 + 128) :: vb f (m / 128) := by simp [vb, h128]
      rw [hv] at ht
      have h' : S.drop a = UInt8.ofNat (m % 128 + 128) :: (bt (vb f (m / 128))).take t := by rw [h, hv, bt_cons]; rfl
      obtain ⟨h1, h2⟩ := getElem_of_drop h'
      have hlt : a < S.length := (List.getElem?_eq_some_iff.1 h1).1
      have hc : (UInt8.ofNat (m % 128 + 128)).toNat = m % 128 + 128 := by rw [UInt8.toNat_ofNat']; omega
      have ih := varv_torn f (a + 1) (i + 1) (n0 + (m % 128 + 128) % 128 * 2 ^ (7 * i)) (m / 128) t (by omega) hlt h2 (by simpa using ht)
      unfold varv
      rw [h1]
      simp only [hc]
      rw [if_neg (by omega), if_neg (by omega), if_neg (by omega), ih]

theorem varv_one {S : List UInt8} : ∀ (f a i n0 a' v : Nat), f + i = 9 → varv S (f + 1) a i n0 = (a', 0, v) →
    ∃ m, v = n0 + m * 2 ^ (7 * i) ∧ a < a' ∧ a' ≤ S.length ∧ bt (vb f m) = (S.drop a).take (a' - a) ∧ (0 < i → m ≠ 0) ∧ m * 2 ^ (7 * i) < 2 ^ 64 ∧ a' ≤ a + f + 1
  | f, a, i, n0, a', v, hi, h => by
    unfold varv at h
    rcases hx : S[a]? with _ | c
    · rw [hx] at h; simp at h
    · rw [hx] at h
      simp only at h
      have hlt : a < S.length := (List.getElem?_eq_some_iff.1 hx).1
      have hc : c.toNat < 256 := c.toNat_lt
      have hd : S.drop a = c :: S.drop (a + 1) := by
        rw [List.drop_eq_getElem_cons hlt]
        have := List.getElem?_eq_getElem hlt
        rw [hx] at this
        rw [← Option.some.inj this]
      split at h
      · simp at h
      · rename_i h9
        split at h
        · simp at h
        · rename_i h0
          split at h
          · rename_i h128
            simp only [Prod.mk.injEq] at h
            obtain ⟨rfl, _, rfl⟩ := h
            have e1 : c.toNat % 128 = c.toNat := Nat.mod_eq_of_lt h128
            refine ⟨c.toNat, by rw [e1], by omega, hlt, ?_, fun hp hq => h0 ⟨hq, hp⟩, ?_, by omega⟩
            · have hv : vb f c.toNat = [c.toNat] := by
                cases f with
                | zero => simp [vb]
                | succ f => simp [vb, h128]
              rw [hv, bt_cons, bt_nil, hd, show a + 1 - a = 1 by omega]
              simp
            · have hs := shl7_of (c := c.toNat) (i := i) (by omega) h128 (fun hq => by have := h9; omega)
              exact hs.2
          · rename_i h128
            obtain ⟨f, rfl⟩ : ∃ g, f = g + 1 := ⟨f - 1, by omega⟩
            obtain ⟨m, h1, h2, h3, h4, h5, h6, h7⟩ := varv_one f (a + 1) (i + 1) _ a' v (by omega) h
            have hp : 2 ^ (7 * (i + 1)) = 128 * 2 ^ (7 * i) := by rw [show 7 * (i + 1) = 7 + 7 * i by omega, Nat.pow_add]
            have hm0 := h5 (by omega)
            have hval : c.toNat % 128 * 2 ^ (7 * i) + m * 2 ^ (7 * (i + 1)) = (c.toNat % 128 + 128 * m) * 2 ^ (7 * i) := by
              rw [hp, ← Nat.mul_assoc, ← Nat.add_mul, Nat.mul_comm m 128]
            refine ⟨c.toNat % 128 + 128 * m, by rw [h1, ← hval]; omega, by omega, h3, ?_, by omega, ?_, by omega⟩
            · have hv : vb (f + 1) (c.toNat % 128 + 128 * m) = ((c.toNat % 128 + 128 * m) % 128 + 128) :: vb f ((c.toNat % 128 + 128 * m) / 128) := by
                simp only [vb]; rw [if_neg (by omega)]
              have e1 : (c.toNat % 128 + 128 * m) % 128 + 128 = c.toNat := by omega
              have e2 : (c.toNat % 128 + 128 * m) / 128 = m := by omega
              rw [hv, e1, e2, bt_cons, h4, hd, show a' - a = (a' - (a + 1)) + 1 by omega, List.take_succ_cons, UInt8.ofNat_toNat]
            · rw [Nat.add_mul, Nat.mul_comm 128 m, Nat.mul_assoc, ← hp]
              have hn : c.toNat % 128 * 2 ^ (7 * i) < 2 ^ (7 * (i + 1)) := by
                rw [hp]; exact Nat.mul_lt_mul_of_pos_right (by omega) (Nat.two_pow_pos _)
              have hd : 2 ^ (7 * (i + 1)) ∣ 2 ^ 63 := Nat.pow_dvd_pow 2 (by omega)
              obtain ⟨q, hq⟩ := hd
              have h64 : (2 : Nat) ^ 64 = 2 ^ (7 * (i + 1)) * (2 * q) := by rw [Nat.mul_left_comm, ← hq]
              rw [h64, Nat.mul_comm m] at h6
              have hm2 : m < 2 * q := Nat.lt_of_mul_lt_mul_left h6
              rw [h64, Nat.mul_comm m]
              calc c.toNat % 128 * 2 ^ (7 * i) + 2 ^ (7 * (i + 1)) * m < 2 ^ (7 * (i + 1)) + 2 ^ (7 * (i + 1)) * m := Nat.add_lt_add_right hn _
                _ = 2 ^ (7 * (i + 1)) * (m + 1) := (Nat.add_comm _ _).trans (Nat.mul_succ _ _).symm
                _ ≤ 2 ^ (7 * (i + 1)) * (2 * q) := Nat.mul_le_mul_left _ (by omega)

/-- What is read of a var that was written. -/
theorem readv_back {S r : List UInt8} {a n : Nat} (h : S.drop a = bt (vb 9 n) ++ r) (hn : n < 18446744073709551616) : readv S a 0 = (a + (vb 9 n).length, 0, n) := by
  unfold readv
  rw [if_pos rfl, varv_back 9 a 0 0 n r rfl h (by simpa using hn) (by omega) (by omega)]
  simp
theorem readv_torn {S : List UInt8} {a n t : Nat} (ha : a ≤ S.length) (h : S.drop a = (bt (vb 9 n)).take t) (ht : t < (vb 9 n).length) : readv S a 0 = (S.length, 10, 0) := by
  unfold readv
  rw [if_pos rfl, varv_torn 9 a 0 0 n t rfl ha h ht]
theorem readv_one {S : List UInt8} {a : Nat} {e : Int} (h : (readv S a e).2.1 = 0) : e = 0 ∧ (readv S a e).2.2 < 18446744073709551616 ∧ a < (readv S a e).1 ∧ (readv S a e).1 ≤ S.length ∧ bt (vb 9 (readv S a e).2.2) = (S.drop a).take ((readv S a e).1 - a) := by
  unfold readv at h ⊢
  split
  · rename_i he
    rw [if_pos he] at h
    rcases hv : varv S 10 a 0 0 with ⟨a', e', v⟩
    rw [hv] at h
    simp only at h
    subst h
    obtain ⟨m, h1, h2, h3, h4, _, h6, _⟩ := varv_one 9 a 0 0 a' v rfl hv
    have : v = m := by rw [h1]; simp
    subst this
    exact ⟨he, by simpa using h6, h2, h3, h4⟩
  · rename_i he
    rw [if_neg he] at h
    exact absurd h he
theorem readv_err {S : List UInt8} {a : Nat} {e : Int} (h : e ≠ 0) : readv S a e = (a, e, 0) := by
  unfold readv; rw [if_neg h]
theorem numv_err {S : List UInt8} {a k : Nat} {e : Int} (h : e ≠ 0) : numv S a e k = (a, e, 0) := by
  unfold numv; rw [if_neg h]
theorem numv_one {S : List UInt8} {a k : Nat} {e : Int} (h : (numv S a e k).2.1 = 0) : e = 0 ∧ (numv S a e k).1 = a + k ∧ a + k ≤ S.length ∧ bt (le k (numv S a e k).2.2) = (S.drop a).take k := by
  unfold numv at h ⊢
  by_cases he : e = 0
  · rw [if_pos he] at h ⊢
    by_cases h1 : a + k ≤ S.length
    · rw [if_pos h1] at h ⊢
      refine ⟨he, rfl, h1, ?_⟩
      have := bt_le_lev ((S.drop a).take k)
      rw [List.length_take, List.length_drop, Nat.min_eq_left (by omega)] at this
      exact this
    · rw [if_neg h1] at h; simp at h
  · rw [if_neg he] at h; exact absurd h he

theorem varv_bad {S : List UInt8} : ∀ (f a i n : Nat), (varv S f a i n).2.1 ≠ 0 → (varv S f a i n).2.2 = 0
  | 0, a, i, n, h => by simp [varv] at h
  | f + 1, a, i, n, h => by
    unfold varv at h ⊢
    rcases hx : S[a]? with _ | c
    · rfl
    · rw [hx] at h
      simp only at h ⊢
      split
      · rfl
      · rename_i h1
        rw [if_neg h1] at h
        split
        · rfl
        · rename_i h2
          rw [if_neg h2] at h
          split
          · rename_i h3
            rw [if_pos h3] at h
            simp at h
          · rename_i h3
            rw [if_neg h3] at h
            exact varv_bad f _ _ _ h

theorem readv_bad {S : List UInt8} {a : Nat} {e : Int} (h : (readv S a e).2.1 ≠ 0) : (readv S a e).2.2 = 0 := by
  unfold readv at h ⊢
  split
  · rename_i h1
    rw [if_pos h1] at h
    exact varv_bad _ _ _ _ h
  · rfl

theorem readv_lt {S : List UInt8} {a : Nat} {e : Int} : (readv S a e).2.2 < 18446744073709551616 := by
  by_cases h : (readv S a e).2.1 = 0
  · exact (readv_one h).2.1
  · rw [readv_bad h]; omega

theorem textv_short {S : List UInt8} {a : Nat} {e : Int} {n : Nat} (hS : S.length ≤ n) : (textv S a e).2.2.length ≤ n := by
  unfold textv
  split
  · simp
  · split
    · simp only [List.length_take, List.length_drop]; omega
    · simp

theorem take_add_drop {S : List UInt8} {a b : Nat} : S.take (a + b) = S.take a ++ (S.drop a).take b := by
  rw [List.take_add]

end Go.Proofs.YtekplmhmppdpcaaDoor
