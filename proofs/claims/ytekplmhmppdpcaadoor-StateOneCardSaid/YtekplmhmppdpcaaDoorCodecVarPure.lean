/-
  Chapter 02: what the reader and the document's reader make of a var and of a text, in plain Lean.
-/
import Derived.Test.YtekplmhmppdpcaaDoorCodecReadPure
namespace Go.Proofs.YtekplmhmppdpcaaDoor
open Go Go.Proofs.YtekplmhmppdpcaaDoor.Eng
set_option linter.unusedSimpArgs false
set_option linter.unusedVariables false
set_option maxHeartbeats 1000000

variable {F : Nat}

/-- A var from a on, its i-th byte being the next one, n that of those ahead. -/
def varv (S : List UInt8) : Nat → Nat → Nat → Nat → Nat × Int × Nat
  | 0, a, i, n => (a, 0, n)
  | f + 1, a, i, n =>
    match S[a]? with
    | none => (a, 10, 0)
    | some c =>
      if i = 9 ∧ 1 < c.toNat then (a + 1, 3, 0) else if c.toNat = 0 ∧ 0 < i then (a + 1, 4, 0)
      else if c.toNat < 128 then (a + 1, 0, n + c.toNat % 128 * 2 ^ (7 * i)) else varv S f (a + 1) (i + 1) (n + c.toNat % 128 * 2 ^ (7 * i))

theorem and127 : ∀ k : Fin 256, bits .and .u8 (k.val : Int) 127 = ((k.val % 128 : Nat) : Int) := by decide +kernel

theorem shl7_of {c i : Nat} (hi : i ≤ 9) (hc : c < 128) (h9 : i = 9 → c ≤ 1) : shlI .u64 (IntKind.wrap .u64 (c : Int)) (IntKind.wrap .i64 ((7 : Int) * (i : Int))) = some ((c * 2 ^ (7 * i) : Nat) : Int) ∧ c * 2 ^ (7 * i) < 2 ^ 64 := by
  have hp : c * 2 ^ (7 * i) < 2 ^ 64 := by
    rcases Nat.lt_or_ge i 9 with h | h
    · have h1 : 2 ^ (7 * i) ≤ 2 ^ 56 := Nat.pow_le_pow_right (by omega) (by omega)
      have h2 : c * 2 ^ (7 * i) ≤ 127 * 2 ^ 56 := Nat.mul_le_mul (by omega) h1
      omega
    · obtain rfl : i = 9 := by omega
      have := h9 rfl
      have h2 : c * 2 ^ (7 * 9) ≤ 1 * 2 ^ 63 := Nat.mul_le_mul this (Nat.le_refl _)
      omega
  refine ⟨?_, hp⟩
  rw [wr_i64 ⟨by omega, by omega⟩, wr_u64 ⟨by omega, by omega⟩]
  unfold shlI
  rw [if_pos (by omega)]
  have h : ((7 : Int) * (i : Int)).toNat = 7 * i := by omega
  have hb : IntKind.bits .u64 = 64 := rfl
  rw [h, hb, Nat.min_eq_left (by omega)]
  have e : ((c : Int) * 2 ^ (7 * i)) = ((c * 2 ^ (7 * i) : Nat) : Int) := by simp
  rw [e, wr_u64 ⟨by omega, by omega⟩]

theorem step_lt {n c i : Nat} (hn : n < 2 ^ (7 * i)) (hc : c < 128) : n + c * 2 ^ (7 * i) < 2 ^ (7 * (i + 1)) := by
  rw [show 7 * (i + 1) = 7 * i + 7 by omega, Nat.pow_add]
  have : c * 2 ^ (7 * i) ≤ 127 * 2 ^ (7 * i) := Nat.mul_le_mul_right _ (by omega)
  omega

theorem var_loop {S : List UInt8} (hS : S.length ≤ 1000000) : ∀ (f m a i n : Nat), f < m → f + i = 10 → a ≤ S.length → n < 2 ^ (7 * i) → f ≠ 0 →
    m_codec_Reader_Var_L14 F m (n : Int) (i : Int) (rdr S a 0) = some (.inr (rdr S (varv S f a i n).1 (varv S f a i n).2.1, (((varv S f a i n).2.2 : Nat) : Int)))
  | 0, _, _, _, _, _, _, _, _, h => absurd rfl h
  | f + 1, 0, a, i, n, hm, _, _, _, _ => by omega
  | f + 1, m + 1, a, i, n, hm, hi, ha, hn, _ => by
    rw [m_codec_Reader_Var_L14.eq_2]
    have w1 : (1 : Int) = ((1 : Nat) : Int) := rfl
    simp only [decide_eq_true (show (i : Int) < 10 by omega), cond_true]
    rcases hx : S[a]? with _ | c
    · have hlen : S.length ≤ a := List.getElem?_eq_none_iff.1 hx
      have ht := take_short (F := F) (s := S.drop a) (n := 1) (by simp; omega) (by simp; omega)
      simp only [rdr, if_true, ht, Option.bind_some, Bool.not_false, cond_true, varv, hx]
      simp
    · have hlt : a < S.length := (List.getElem?_eq_some_iff.1 hx).1
      have ht := take_ok (F := F) (s := S.drop a) (n := 1) (by simp; omega) (by simp; omega)
      have htk : (S.drop a).take 1 = [c] := by
        have h1 := List.drop_eq_getElem_cons hlt
        have h2 := List.getElem?_eq_getElem hlt
        rw [hx] at h2
        rw [h1, List.take_succ_cons, List.take_zero, ← Option.some.inj h2]
      rw [htk, List.drop_drop] at ht
      have hg : getI [c] 0 = some c := rfl
      have hc : c.toNat < 256 := c.toNat_lt
      have hand : bits .and .u8 (c.toNat : Int) 127 = ((c.toNat % 128 : Nat) : Int) := and127 ⟨c.toNat, hc⟩
      have hw : IntKind.wrap .i64 ((i : Int) + 1) = ((i + 1 : Nat) : Int) := by rw [wr_i64 ⟨by omega, by omega⟩]; omega
      have b9 : ((i : Int) == 9) = decide (i = 9) := by
        by_cases h : i = 9
        · subst h; rfl
        · rw [decide_eq_false h]; exact beq_eq_false_iff_ne.2 (by omega)
      have b0 : ((c.toNat : Int) == 0) = decide (c.toNat = 0) := by
        by_cases h : c.toNat = 0
        · rw [h]; rfl
        · rw [decide_eq_false h]; exact beq_eq_false_iff_ne.2 (by omega)
      have ht' : m_codec_left_take F (rdr S a 0).left 1 = some (⟨S.drop (a + 1), 0⟩, [c], true) := ht
      simp only [ht', Option.bind_some, Bool.not_true, cond_false, hg, b9, b0]
      simp only [varv, hx]
      by_cases h9 : i = 9 ∧ 1 < c.toNat
      · simp [h9.1, h9.2, show (1 : Int) < (c.toNat : Int) by omega, m_codec_left_fail, rdr]
      · have e9 : (cond (decide (i = 9)) (some (decide ((1 : Int) < (c.toNat : Int)))) (some false)) = some false := by
          by_cases h : i = 9
          · rw [decide_eq_true h]; simp only [cond_true]; rw [decide_eq_false (by omega)]
          · rw [decide_eq_false h]; rfl
        simp only [e9, Option.bind_some, cond_false, if_neg h9]
        by_cases h0 : c.toNat = 0 ∧ 0 < i
        · simp [h0.1, h0.2, m_codec_left_fail, rdr]
        · have e0 : (cond (decide (c.toNat = 0)) (some (decide ((0 : Int) < (i : Int)))) (some false)) = some false := by
            by_cases h : c.toNat = 0
            · rw [decide_eq_true h]; simp only [cond_true]; rw [decide_eq_false (by omega)]
            · rw [decide_eq_false h]; rfl
          have hs := shl7_of (c := c.toNat % 128) (i := i) (by omega) (by omega) (fun h => by have := h9; omega)
          have ho := or_add (k := .u64) (n := 64) (i := 7 * i) (a := n) (c := c.toNat % 128) rfl rfl hn hs.2 (by omega)
          simp only [e0, Option.bind_some, cond_false, if_neg h0, hand, hs.1, ho]
          by_cases h128 : c.toNat < 128
          · simp [h128, show (c.toNat : Int) < 128 by omega, rdr]
          · have hf : f ≠ 0 := by omega
            have ih := var_loop hS f m (a + 1) (i + 1) (n + c.toNat % 128 * 2 ^ (7 * i)) (by omega) (by omega) (by omega) (step_lt hn (by omega)) hf
            simp only [decide_eq_false (show ¬ (c.toNat : Int) < 128 by omega), cond_false, if_neg h128, hw]
            exact ih


theorem varv_le {S : List UInt8} : ∀ (f a i n : Nat), a ≤ S.length → (varv S f a i n).1 ≤ S.length
  | 0, a, i, n, h => h
  | f + 1, a, i, n, h => by
    unfold varv
    rcases hx : S[a]? with _ | c
    · exact h
    · have hlt : a < S.length := (List.getElem?_eq_some_iff.1 hx).1
      simp only
      split
      · exact hlt
      · split
        · exact hlt
        · split
          · exact hlt
          · exact varv_le f _ _ _ hlt

def readv (S : List UInt8) (a : Nat) (e : Int) : Nat × Int × Nat := if e = 0 then varv S 10 a 0 0 else (a, e, 0)

theorem readv_le {S : List UInt8} {a : Nat} {e : Int} (ha : a ≤ S.length) : (readv S a e).1 ≤ S.length := by
  unfold readv; split
  · exact varv_le _ _ _ _ ha
  · exact ha

theorem var_r {S : List UInt8} {a : Nat} {e : Int} (ha : a ≤ S.length) (hS : S.length ≤ 1000000) (hF : 20 ≤ F) :
    m_codec_Reader_Var F (rdr S a e) = some (rdr S (readv S a e).1 (readv S a e).2.1, (((readv S a e).2.2 : Nat) : Int)) := by
  unfold readv
  simp only [m_codec_Reader_Var]
  by_cases he : e = 0
  · subst he
    have h := var_loop (F := F) hS 10 F a 0 0 (by omega) (by omega) ha (by simp) (by omega)
    have h' : m_codec_Reader_Var_L14 F F 0 0 (rdr S a 0) = some (.inr (rdr S (varv S 10 a 0 0).1 (varv S 10 a 0 0).2.1, (((varv S 10 a 0 0).2.2 : Nat) : Int))) := h
    rw [h', if_pos rfl]
    rfl
  · obtain ⟨m, rfl⟩ : ∃ m, F = m + 1 := ⟨F - 1, by omega⟩
    have ht := take_err (F := m + 1) (s := []) (e := e) (n := 1) he
    rw [m_codec_Reader_Var_L14.eq_2, if_neg he]
    simp only [rdr, if_neg he, ht, Option.bind_some]
    rfl


def textv (S : List UInt8) (a : Nat) (e : Int) : Nat × Int × List UInt8 :=
  if (readv S a e).2.1 ≠ 0 then ((readv S a e).1, (readv S a e).2.1, []) else
    if (readv S a e).1 + (readv S a e).2.2 ≤ S.length then ((readv S a e).1 + (readv S a e).2.2, 0, (S.drop (readv S a e).1).take (readv S a e).2.2) else ((readv S a e).1, 10, [])

theorem textv_le {S : List UInt8} {a : Nat} {e : Int} (ha : a ≤ S.length) : (textv S a e).1 ≤ S.length := by
  have := readv_le (e := e) ha
  unfold textv; split
  · exact this
  · split
    · assumption
    · exact this



theorem numv_le {S : List UInt8} {a k : Nat} {e : Int} (ha : a ≤ S.length) : (numv S a e k).1 ≤ S.length := by
  unfold numv; split
  · split
    · assumption
    · exact ha
  · exact ha
theorem numv_lt {S : List UInt8} {a k : Nat} {e : Int} (hk : k ≤ 8) : (numv S a e k).2.2 < 256 ^ k := by
  unfold numv; split
  · split
    · have := lev_lt ((S.drop a).take k)
      have hl : ((S.drop a).take k).length = k := by simp; omega
      rw [hl] at this
      exact this
    · exact Nat.pow_pos (by omega)
  · exact Nat.pow_pos (by omega)


end Go.Proofs.YtekplmhmppdpcaaDoor
