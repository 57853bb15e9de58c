/-
  Chapter 02: what the writer and the document's bytes are, in plain Lean.
-/
import Derived.Test.YthlnellnlhkphaaDoorMod
import Derived.Test.YthlnellnlhkphaaDoorPure
namespace Go.Proofs.YthlnellnlhkphaaDoor
open Go Go.Proofs.YthlnellnlhkphaaDoor.Eng
set_option linter.unusedSimpArgs false
set_option linter.unusedVariables false
set_option maxHeartbeats 1000000

/-- A number's bytes, the least first. -/
def le : Nat → Nat → List Nat
  | 0, _ => []
  | k + 1, n => n % 256 :: le k (n / 256)
def iL (l : List Nat) : List Int := l.map fun (n : Nat) => (n : Int)

theorem iL_append (a b : List Nat) : iL (a ++ b) = iL a ++ iL b := by simp [iL]
theorem iL_length (a : List Nat) : (iL a).length = a.length := by simp [iL]
theorem le_length : ∀ k n, (le k n).length = k
  | 0, _ => rfl
  | k + 1, n => by simp [le, le_length k]
theorem le_mod : ∀ (k n : Nat), le k (n % 256 ^ k) = le k n
  | 0, _ => rfl
  | k + 1, n => by
    simp only [le]
    have h1 : n % 256 ^ (k + 1) % 256 = n % 256 := Nat.mod_mod_of_dvd _ ⟨256 ^ k, by rw [Nat.pow_succ, Nat.mul_comm]⟩
    have h2 : n % 256 ^ (k + 1) / 256 = n / 256 % 256 ^ k := by rw [Nat.pow_succ, Nat.mul_comm, Nat.mod_mul_right_div_self]
    rw [h1, h2, le_mod k]

theorem wr_u8m (n : Nat) : IntKind.wrap .u8 (n : Int) = ((n % 256 : Nat) : Int) := by simp [IntKind.wrap, IntKind.bits, IntKind.signed]
theorem wr_u16m (n : Nat) : IntKind.wrap .u16 (n : Int) = ((n % 65536 : Nat) : Int) := by simp [IntKind.wrap, IntKind.bits, IntKind.signed]
theorem wr_u32m (n : Nat) : IntKind.wrap .u32 (n : Int) = ((n % 4294967296 : Nat) : Int) := by simp [IntKind.wrap, IntKind.bits, IntKind.signed]
theorem wr_i32m (n : Nat) : IntKind.wrap .u32 (IntKind.wrap .i32 (n : Int)) = ((n % 4294967296 : Nat) : Int) := by
  simp only [IntKind.wrap, IntKind.bits, IntKind.signed]; simp; split <;> omega

theorem shr_of {n i : Nat} (hi : i ≤ 7) : shrI .u64 (n : Int) (IntKind.wrap .i64 ((8 : Int) * (i : Int))) = some ((n / 2 ^ (8 * i) : Nat) : Int) := by
  rw [wr_i64 ⟨by omega, by omega⟩]
  unfold shrI
  rw [if_pos (by omega)]
  have h : ((8 : Int) * (i : Int)).toNat = 8 * i := by omega
  have hb : IntKind.bits .u64 = 64 := rfl
  rw [h, hb, Nat.min_eq_left (by omega)]
  simp

theorem step_shift (n i : Nat) : n / 2 ^ (8 * i) / 256 = n / 2 ^ (8 * (i + 1)) := by
  rw [Nat.div_div_eq_div_mul, show 8 * (i + 1) = 8 * i + 8 by omega, Nat.pow_add]

variable {F : Nat}

theorem put64 {n k : Nat} (hn : n < 18446744073709551616) (hk : k ≤ 8) : ∀ (m i : Nat) (b : List Int), k - i < m → i ≤ k → b.length + (k - i) ≤ 1000000 →
    m_codec_put_uint64_L9 F (n : Int) (k : Int) m (i : Int) b = some (b ++ iL (le (k - i) (n / 2 ^ (8 * i))))
  | 0, i, b, hm, _, _ => by omega
  | m + 1, i, b, hm, hi, hb => by
    rw [m_codec_put_uint64_L9.eq_2]
    by_cases h1 : i < k
    · have ih := put64 hn hk m (i + 1) (b ++ [((n / 2 ^ (8 * i) % 256 : Nat) : Int)]) (by omega) (by omega) (by simp; omega)
      have hw : IntKind.wrap .i64 ((i : Int) + 1) = ((i + 1 : Nat) : Int) := by rw [wr_i64 ⟨by omega, by omega⟩]; omega
      simp only [decide_eq_true (show (i : Int) < (k : Int) by omega), cond_true, shr_of (n := n) (show i ≤ 7 by omega), Option.bind_some, wr_u8m]
      rw [appI_of (by simp; omega)]
      simp only [Option.bind_some, hw, ih]
      obtain ⟨q, hq⟩ : ∃ q, k - i = q + 1 := ⟨k - i - 1, by omega⟩
      rw [hq, show k - (i + 1) = q by omega]
      simp [le, iL, step_shift]
    · simp only [decide_eq_false (show ¬ (i : Int) < (k : Int) by omega), cond_false]
      rw [show k - i = 0 by omega]
      simp [le, iL]

theorem put8 {n k : Nat} (hn : n < 18446744073709551616) (hk : k ≤ 8) : ∀ (m i : Nat) (b : List Int), k - i < m → i ≤ k → b.length + (k - i) ≤ 1000000 →
    m_codec_put_uint8_L9 F (n : Int) (k : Int) m (i : Int) b = some (b ++ iL (le (k - i) (n / 2 ^ (8 * i))))
  | 0, i, b, hm, _, _ => by omega
  | m + 1, i, b, hm, hi, hb => by
    rw [m_codec_put_uint8_L9.eq_2]
    by_cases h1 : i < k
    · have ih := put8 hn hk m (i + 1) (b ++ [((n / 2 ^ (8 * i) % 256 : Nat) : Int)]) (by omega) (by omega) (by simp; omega)
      have hw : IntKind.wrap .i64 ((i : Int) + 1) = ((i + 1 : Nat) : Int) := by rw [wr_i64 ⟨by omega, by omega⟩]; omega
      have hz : IntKind.wrap .u64 (n : Int) = (n : Int) := wr_u64 ⟨by omega, by omega⟩
      simp only [hz, decide_eq_true (show (i : Int) < (k : Int) by omega), cond_true, shr_of (n := n) (show i ≤ 7 by omega), Option.bind_some, wr_u8m]
      rw [appI_of (by simp; omega)]
      simp only [Option.bind_some, hw, ih]
      obtain ⟨q, hq⟩ : ∃ q, k - i = q + 1 := ⟨k - i - 1, by omega⟩
      rw [hq, show k - (i + 1) = q by omega]
      simp [le, iL, step_shift]
    · simp only [decide_eq_false (show ¬ (i : Int) < (k : Int) by omega), cond_false]
      rw [show k - i = 0 by omega]
      simp [le, iL]

theorem put16 {n k : Nat} (hn : n < 18446744073709551616) (hk : k ≤ 8) : ∀ (m i : Nat) (b : List Int), k - i < m → i ≤ k → b.length + (k - i) ≤ 1000000 →
    m_codec_put_uint16_L9 F (n : Int) (k : Int) m (i : Int) b = some (b ++ iL (le (k - i) (n / 2 ^ (8 * i))))
  | 0, i, b, hm, _, _ => by omega
  | m + 1, i, b, hm, hi, hb => by
    rw [m_codec_put_uint16_L9.eq_2]
    by_cases h1 : i < k
    · have ih := put16 hn hk m (i + 1) (b ++ [((n / 2 ^ (8 * i) % 256 : Nat) : Int)]) (by omega) (by omega) (by simp; omega)
      have hw : IntKind.wrap .i64 ((i : Int) + 1) = ((i + 1 : Nat) : Int) := by rw [wr_i64 ⟨by omega, by omega⟩]; omega
      have hz : IntKind.wrap .u64 (n : Int) = (n : Int) := wr_u64 ⟨by omega, by omega⟩
      simp only [hz, decide_eq_true (show (i : Int) < (k : Int) by omega), cond_true, shr_of (n := n) (show i ≤ 7 by omega), Option.bind_some, wr_u8m]
      rw [appI_of (by simp; omega)]
      simp only [Option.bind_some, hw, ih]
      obtain ⟨q, hq⟩ : ∃ q, k - i = q + 1 := ⟨k - i - 1, by omega⟩
      rw [hq, show k - (i + 1) = q by omega]
      simp [le, iL, step_shift]
    · simp only [decide_eq_false (show ¬ (i : Int) < (k : Int) by omega), cond_false]
      rw [show k - i = 0 by omega]
      simp [le, iL]

theorem put32 {n k : Nat} (hn : n < 18446744073709551616) (hk : k ≤ 8) : ∀ (m i : Nat) (b : List Int), k - i < m → i ≤ k → b.length + (k - i) ≤ 1000000 →
    m_codec_put_uint32_L9 F (n : Int) (k : Int) m (i : Int) b = some (b ++ iL (le (k - i) (n / 2 ^ (8 * i))))
  | 0, i, b, hm, _, _ => by omega
  | m + 1, i, b, hm, hi, hb => by
    rw [m_codec_put_uint32_L9.eq_2]
    by_cases h1 : i < k
    · have ih := put32 hn hk m (i + 1) (b ++ [((n / 2 ^ (8 * i) % 256 : Nat) : Int)]) (by omega) (by omega) (by simp; omega)
      have hw : IntKind.wrap .i64 ((i : Int) + 1) = ((i + 1 : Nat) : Int) := by rw [wr_i64 ⟨by omega, by omega⟩]; omega
      have hz : IntKind.wrap .u64 (n : Int) = (n : Int) := wr_u64 ⟨by omega, by omega⟩
      simp only [hz, decide_eq_true (show (i : Int) < (k : Int) by omega), cond_true, shr_of (n := n) (show i ≤ 7 by omega), Option.bind_some, wr_u8m]
      rw [appI_of (by simp; omega)]
      simp only [Option.bind_some, hw, ih]
      obtain ⟨q, hq⟩ : ∃ q, k - i = q + 1 := ⟨k - i - 1, by omega⟩
      rw [hq, show k - (i + 1) = q by omega]
      simp [le, iL, step_shift]
    · simp only [decide_eq_false (show ¬ (i : Int) < (k : Int) by omega), cond_false]
      rw [show k - i = 0 by omega]
      simp [le, iL]

/-- What each writer's call adds. -/
theorem U8_of {n : Nat} (hn : n < 256) {w : T_codec_Writer} (hF : 10 ≤ F) (hb : w.b.length ≤ 900000) : m_codec_Writer_U8 F w (n : Int) = some ⟨w.b ++ iL (le 1 n)⟩ := by
  have := put8 (F := F) (n := n) (k := 1) (by omega) (by omega) F 0 w.b (by omega) (by omega) (by omega)
  simp only [m_codec_Writer_U8, m_codec_put_uint8]
  rw [show (0 : Int) = ((0 : Nat) : Int) from rfl, show (1 : Int) = ((1 : Nat) : Int) from rfl, this]
  simp

theorem U16_of {n : Nat} (hn : n < 65536) {w : T_codec_Writer} (hF : 10 ≤ F) (hb : w.b.length ≤ 900000) : m_codec_Writer_U16 F w (n : Int) = some ⟨w.b ++ iL (le 2 n)⟩ := by
  have := put16 (F := F) (n := n) (k := 2) (by omega) (by omega) F 0 w.b (by omega) (by omega) (by omega)
  simp only [m_codec_Writer_U16, m_codec_put_uint16]
  rw [show (0 : Int) = ((0 : Nat) : Int) from rfl, show (2 : Int) = ((2 : Nat) : Int) from rfl, this]
  simp


theorem I32_of {x : Int} {n : Nat} (hx : IntKind.wrap .u32 x = (n : Int)) (hn : n < 4294967296) {w : T_codec_Writer} (hF : 10 ≤ F) (hb : w.b.length ≤ 900000) : m_codec_Writer_I32 F w x = some ⟨w.b ++ iL (le 4 n)⟩ := by
  have := put32 (F := F) (n := n) (k := 4) (by omega) (by omega) F 0 w.b (by omega) (by omega) (by omega)
  simp only [m_codec_Writer_I32, m_codec_put_uint32, hx]
  rw [show (0 : Int) = ((0 : Nat) : Int) from rfl, show (4 : Int) = ((4 : Nat) : Int) from rfl, this]
  simp

theorem U64_of {n : Nat} (hn : n < 18446744073709551616) {w : T_codec_Writer} (hF : 10 ≤ F) (hb : w.b.length ≤ 900000) : m_codec_Writer_U64 F w (n : Int) = some ⟨w.b ++ iL (le 8 n)⟩ := by
  have := put64 (F := F) (n := n) (k := 8) hn (by omega) F 0 w.b (by omega) (by omega) (by omega)
  simp only [m_codec_Writer_U64, m_codec_put_uint64]
  rw [show (0 : Int) = ((0 : Nat) : Int) from rfl, show (8 : Int) = ((8 : Nat) : Int) from rfl, this]
  simp



/-- A number of few bytes as it is needed. -/
def vb : Nat → Nat → List Nat
  | 0, n => [n % 256]
  | f + 1, n => if n < 128 then [n] else (n % 128 + 128) :: vb f (n / 128)

theorem or128 : ∀ k : Fin 256, bits .or .u8 (k.val : Int) 128 = ((k.val % 128 + 128 : Nat) : Int) := by decide +kernel
theorem le1 {n : Nat} (h : n < 256) : iL (le 1 n) = [(n : Int)] := by simp [le, iL, Nat.mod_eq_of_lt h]

theorem wvar_loop : ∀ (f m n : Nat) (b : List Int), f < m → 10 ≤ F → n < 128 ^ (f + 1) → n < 18446744073709551616 → b.length + f ≤ 900000 →
    ∃ (n' : Nat) (b' : List Int), m_codec_Writer_Var_L2 F m (n : Int) b = some (((n' : Nat) : Int), b') ∧ n' < 128 ∧ b' ++ [(n' : Int)] = b ++ iL (vb f n) ∧ b'.length ≤ b.length + f
  | f, 0, n, b, h, _, _, _, _ => by omega
  | f, m + 1, n, b, h, hF, hn, hn2, hb => by
    rw [m_codec_Writer_Var_L2.eq_2]
    by_cases h1 : 127 < n
    · obtain ⟨g, rfl⟩ : ∃ g, f = g + 1 := by
        rcases f with _ | g
        · simp at hn; omega
        · exact ⟨g, rfl⟩
      have hd : (n : Int) / 2 ^ (min 7 (IntKind.bits .u64)) = ((n / 128 : Nat) : Int) := by
        have hb : IntKind.bits .u64 = 64 := rfl
        rw [hb]; simp
      have ho : bits .or .u8 (IntKind.wrap .u8 (n : Int)) 128 = ((n % 128 + 128 : Nat) : Int) := by
        rw [wr_u8m, or128 ⟨n % 256, by omega⟩]; congr 2; simp
      have hlt : n / 128 < 128 ^ (g + 1) := by
        rw [Nat.div_lt_iff_lt_mul (by omega)]
        rw [Nat.pow_succ] at hn; exact hn
      obtain ⟨n', b', e1, e2, e3, e4⟩ := wvar_loop g m (n / 128) (b ++ [((n % 128 + 128 : Nat) : Int)]) (by omega) hF hlt (by omega) (by simp; omega)
      simp only [decide_eq_true (show (127 : Int) < (n : Int) by omega), cond_true, ho]
      rw [U8_of (n := n % 128 + 128) (by omega) hF (by simp; omega), le1 (by omega)]
      simp only [Option.bind_some, hd]
      refine ⟨n', b', e1, e2, ?_, by simp at e4; omega⟩
      rw [e3]
      simp [vb, show ¬ n < 128 by omega, iL]
    · refine ⟨n, b, ?_, by omega, ?_, by omega⟩
      · simp only [decide_eq_false (show ¬ (127 : Int) < (n : Int) by omega), cond_false]
      · rcases f with _ | g
        · simp [vb, iL, Nat.mod_eq_of_lt (show n < 256 by omega)]
        · simp [vb, show n < 128 by omega, iL]

theorem Var_of {n : Nat} (hn : n < 18446744073709551616) {w : T_codec_Writer} (hF : 20 ≤ F) (hb : w.b.length ≤ 800000) : m_codec_Writer_Var F w (n : Int) = some ⟨w.b ++ iL (vb 9 n)⟩ := by
  obtain ⟨n', b', e1, e2, e3, e4⟩ := wvar_loop (F := F) 9 F n w.b (by omega) (by omega) (by omega) hn (by omega)
  simp only [m_codec_Writer_Var, e1, Option.bind_some]
  rw [wr_u8 ⟨by omega, by omega⟩, U8_of (by omega) (by omega) (by simp; omega), le1 (by omega)]
  simp only [Option.bind_some, e3]



end Go.Proofs.YthlnellnlhkphaaDoor
