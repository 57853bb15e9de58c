/-
  Chapter 02: what the reader and the document's reader answer, in plain Lean.
-/
import Derived.Test.YtekplmhmppdpcaaDoorCodecPure
namespace Go.Proofs.YtekplmhmppdpcaaDoor
open Go Go.Proofs.YtekplmhmppdpcaaDoor.Eng
set_option linter.unusedSimpArgs false
set_option linter.unusedVariables false
set_option maxHeartbeats 1000000

variable {F : Nat}

/-- The number that bytes are, the least first. -/
def lev : List UInt8 → Nat
  | [] => 0
  | b :: r => b.toNat + 256 * lev r

theorem lev_lt : ∀ v : List UInt8, lev v < 256 ^ v.length
  | [] => by simp [lev]
  | b :: r => by
    have h1 := lev_lt r
    have h2 : b.toNat < 256 := b.toNat_lt
    simp only [lev, List.length_cons, Nat.pow_succ]
    omega

theorem lev_append : ∀ (v : List UInt8) (b : UInt8), lev (v ++ [b]) = lev v + b.toNat * 256 ^ v.length
  | [], b => by simp [lev]
  | a :: r, b => by
    simp only [List.cons_append, lev, lev_append r b, List.length_cons, Nat.pow_succ, Nat.mul_add]
    rw [Nat.mul_left_comm, ← Nat.add_assoc, Nat.mul_comm 256 (256 ^ r.length)]

theorem or_nat {k : IntKind} {n : Nat} (hk : k.signed = false) (hn : k.bits = n) {a b : Nat} (ha : a < 2 ^ n) (hb : b < 2 ^ n) : bits .or k (a : Int) (b : Int) = ((a ||| b : Nat) : Int) := by
  subst hn
  have hlt : a ||| b < 2 ^ k.bits := Nat.or_lt_two_pow ha hb
  simp only [bits, BitVec.ofInt_natCast, BitVec.toNat_or, BitVec.toNat_ofNat, Nat.mod_eq_of_lt ha, Nat.mod_eq_of_lt hb]
  unfold IntKind.wrap
  simp only [hk, Bool.false_and]
  have : ((a ||| b : Nat) : Int) % (2 ^ k.bits : Int) = ((a ||| b : Nat) : Int) := by
    rw [Int.emod_eq_of_lt (Int.natCast_nonneg _)]
    exact_mod_cast hlt
  simpa using this

/-- The bits above are added. -/
theorem or_add {k : IntKind} {n i a c : Nat} (hk : k.signed = false) (hn : k.bits = n) (ha : a < 2 ^ i) (hc : c * 2 ^ i < 2 ^ n) (hi : i ≤ n) : bits .or k (a : Int) ((c * 2 ^ i : Nat) : Int) = ((a + c * 2 ^ i : Nat) : Int) := by
  have ha2 : a < 2 ^ n := Nat.lt_of_lt_of_le ha (Nat.pow_le_pow_right (by omega) hi)
  rw [or_nat hk hn ha2 hc]
  congr 1
  rw [Nat.or_comm, Nat.mul_comm, ← Nat.two_pow_add_eq_or_of_lt ha, Nat.add_comm]

theorem shl_of {c i : Nat} (hi : i ≤ 7) (hc : c < 256) : shlI .u64 (IntKind.wrap .u64 (c : Int)) (IntKind.wrap .i64 ((8 : Int) * (i : Int))) = some ((c * 2 ^ (8 * i) : Nat) : Int) := by
  have hp : c * 2 ^ (8 * i) ≤ 18446744073709551615 := by
    have h1 : 2 ^ (8 * i) ≤ 2 ^ 56 := Nat.pow_le_pow_right (by omega) (by omega)
    have h2 : c * 2 ^ (8 * i) ≤ 255 * 2 ^ 56 := Nat.mul_le_mul (by omega) h1
    omega
  rw [wr_i64 ⟨by omega, by omega⟩, wr_u64 ⟨by omega, by omega⟩]
  unfold shlI
  rw [if_pos (by omega)]
  have h : ((8 : Int) * (i : Int)).toNat = 8 * i := by omega
  have hb : IntKind.bits .u64 = 64 := rfl
  rw [h, hb, Nat.min_eq_left (by omega)]
  have e : ((c : Int) * 2 ^ (8 * i)) = ((c * 2 ^ (8 * i) : Nat) : Int) := by simp
  rw [e, wr_u64 ⟨by omega, by omega⟩]

theorem get64_loop {v : List UInt8} (hv : v.length ≤ 8) : ∀ (m i : Nat), v.length - i < m → i ≤ v.length →
    m_codec_get_uint64_L16 F v m ((lev (v.take i) : Nat) : Int) (i : Int) = some ((lev v : Nat) : Int)
  | 0, i, hm, _ => by omega
  | m + 1, i, hm, hi => by
    rw [m_codec_get_uint64_L16.eq_2]
    by_cases h1 : i < v.length
    · have hx : v[i]? = some v[i] := List.getElem?_eq_getElem h1
      have hw : IntKind.wrap .i64 ((i : Int) + 1) = ((i + 1 : Nat) : Int) := by rw [wr_i64 ⟨by omega, by omega⟩]; omega
      have hc : v[i].toNat < 256 := v[i].toNat_lt
      have hlt := lev_lt (v.take i)
      have htl : (v.take i).length = i := by simp; omega
      have hp : (256 : Nat) ^ i = 2 ^ (8 * i) := by rw [Nat.pow_mul]
      rw [htl, hp] at hlt
      have hle : v[i].toNat * 2 ^ (8 * i) < 2 ^ 64 := by
        have h1 : 2 ^ (8 * i) ≤ 2 ^ 56 := Nat.pow_le_pow_right (by omega) (by omega)
        have h2 : v[i].toNat * 2 ^ (8 * i) ≤ 255 * 2 ^ 56 := Nat.mul_le_mul (by omega) h1
        omega
      have hta : lev (v.take (i + 1)) = lev (v.take i) + v[i].toNat * 2 ^ (8 * i) := by
        rw [List.take_succ_eq_append_getElem h1, lev_append, htl, hp]
      have ih := get64_loop hv m (i + 1) (by omega) (by omega)
      simp only [decide_eq_true (show (i : Int) < (v.length : Int) by omega), cond_true, getI_nat, hx, Option.bind_some, shl_of (show i ≤ 7 by omega) hc, hw]
      rw [or_add (k := .u64) (n := 64) rfl rfl hlt hle (by omega), ← hta]
      exact ih
    · simp only [decide_eq_false (show ¬ (i : Int) < (v.length : Int) by omega), cond_false]
      rw [List.take_of_length_le (by omega)]

theorem get8_loop {v : List UInt8} (hv : v.length ≤ 1) : ∀ (m i : Nat), v.length - i < m → i ≤ v.length →
    m_codec_get_uint8_L16 F v m ((lev (v.take i) : Nat) : Int) (i : Int) = some ((lev v : Nat) : Int)
  | 0, i, hm, _ => by omega
  | m + 1, i, hm, hi => by
    rw [m_codec_get_uint8_L16.eq_2]
    by_cases h1 : i < v.length
    · have hx : v[i]? = some v[i] := List.getElem?_eq_getElem h1
      have hw : IntKind.wrap .i64 ((i : Int) + 1) = ((i + 1 : Nat) : Int) := by rw [wr_i64 ⟨by omega, by omega⟩]; omega
      have hc : v[i].toNat < 256 := v[i].toNat_lt
      have hlt := lev_lt (v.take i)
      have htl : (v.take i).length = i := by simp; omega
      have hp : (256 : Nat) ^ i = 2 ^ (8 * i) := by rw [Nat.pow_mul]
      rw [htl, hp] at hlt
      have hle : v[i].toNat * 2 ^ (8 * i) < 2 ^ 8 := by
        have h1 : 2 ^ (8 * i) ≤ 2 ^ 0 := Nat.pow_le_pow_right (by omega) (by omega)
        have h2 : v[i].toNat * 2 ^ (8 * i) ≤ 255 * 2 ^ 0 := Nat.mul_le_mul (by omega) h1
        omega
      have hta : lev (v.take (i + 1)) = lev (v.take i) + v[i].toNat * 2 ^ (8 * i) := by
        rw [List.take_succ_eq_append_getElem h1, lev_append, htl, hp]
      have hwr : IntKind.wrap .u8 ((v[i].toNat * 2 ^ (8 * i) : Nat) : Int) = ((v[i].toNat * 2 ^ (8 * i) : Nat) : Int) := wr_u8 ⟨by omega, by omega⟩
      have ih := get8_loop hv m (i + 1) (by omega) (by omega)
      simp only [decide_eq_true (show (i : Int) < (v.length : Int) by omega), cond_true, getI_nat, hx, Option.bind_some, shl_of (show i ≤ 7 by omega) hc, hw, hwr]
      rw [or_add (k := .u8) (n := 8) rfl rfl hlt hle (by omega), ← hta]
      exact ih
    · simp only [decide_eq_false (show ¬ (i : Int) < (v.length : Int) by omega), cond_false]
      rw [List.take_of_length_le (by omega)]

theorem get16_loop {v : List UInt8} (hv : v.length ≤ 2) : ∀ (m i : Nat), v.length - i < m → i ≤ v.length →
    m_codec_get_uint16_L16 F v m ((lev (v.take i) : Nat) : Int) (i : Int) = some ((lev v : Nat) : Int)
  | 0, i, hm, _ => by omega
  | m + 1, i, hm, hi => by
    rw [m_codec_get_uint16_L16.eq_2]
    by_cases h1 : i < v.length
    · have hx : v[i]? = some v[i] := List.getElem?_eq_getElem h1
      have hw : IntKind.wrap .i64 ((i : Int) + 1) = ((i + 1 : Nat) : Int) := by rw [wr_i64 ⟨by omega, by omega⟩]; omega
      have hc : v[i].toNat < 256 := v[i].toNat_lt
      have hlt := lev_lt (v.take i)
      have htl : (v.take i).length = i := by simp; omega
      have hp : (256 : Nat) ^ i = 2 ^ (8 * i) := by rw [Nat.pow_mul]
      rw [htl, hp] at hlt
      have hle : v[i].toNat * 2 ^ (8 * i) < 2 ^ 16 := by
        have h1 : 2 ^ (8 * i) ≤ 2 ^ 8 := Nat.pow_le_pow_right (by omega) (by omega)
        have h2 : v[i].toNat * 2 ^ (8 * i) ≤ 255 * 2 ^ 8 := Nat.mul_le_mul (by omega) h1
        omega
      have hta : lev (v.take (i + 1)) = lev (v.take i) + v[i].toNat * 2 ^ (8 * i) := by
        rw [List.take_succ_eq_append_getElem h1, lev_append, htl, hp]
      have hwr : IntKind.wrap .u16 ((v[i].toNat * 2 ^ (8 * i) : Nat) : Int) = ((v[i].toNat * 2 ^ (8 * i) : Nat) : Int) := wr_u16 ⟨by omega, by omega⟩
      have ih := get16_loop hv m (i + 1) (by omega) (by omega)
      simp only [decide_eq_true (show (i : Int) < (v.length : Int) by omega), cond_true, getI_nat, hx, Option.bind_some, shl_of (show i ≤ 7 by omega) hc, hw, hwr]
      rw [or_add (k := .u16) (n := 16) rfl rfl hlt hle (by omega), ← hta]
      exact ih
    · simp only [decide_eq_false (show ¬ (i : Int) < (v.length : Int) by omega), cond_false]
      rw [List.take_of_length_le (by omega)]

theorem get32_loop {v : List UInt8} (hv : v.length ≤ 4) : ∀ (m i : Nat), v.length - i < m → i ≤ v.length →
    m_codec_get_uint32_L16 F v m ((lev (v.take i) : Nat) : Int) (i : Int) = some ((lev v : Nat) : Int)
  | 0, i, hm, _ => by omega
  | m + 1, i, hm, hi => by
    rw [m_codec_get_uint32_L16.eq_2]
    by_cases h1 : i < v.length
    · have hx : v[i]? = some v[i] := List.getElem?_eq_getElem h1
      have hw : IntKind.wrap .i64 ((i : Int) + 1) = ((i + 1 : Nat) : Int) := by rw [wr_i64 ⟨by omega, by omega⟩]; omega
      have hc : v[i].toNat < 256 := v[i].toNat_lt
      have hlt := lev_lt (v.take i)
      have htl : (v.take i).length = i := by simp; omega
      have hp : (256 : Nat) ^ i = 2 ^ (8 * i) := by rw [Nat.pow_mul]
      rw [htl, hp] at hlt
      have hle : v[i].toNat * 2 ^ (8 * i) < 2 ^ 32 := by
        have h1 : 2 ^ (8 * i) ≤ 2 ^ 24 := Nat.pow_le_pow_right (by omega) (by omega)
        have h2 : v[i].toNat * 2 ^ (8 * i) ≤ 255 * 2 ^ 24 := Nat.mul_le_mul (by omega) h1
        omega
      have hta : lev (v.take (i + 1)) = lev (v.take i) + v[i].toNat * 2 ^ (8 * i) := by
        rw [List.take_succ_eq_append_getElem h1, lev_append, htl, hp]
      have hwr : IntKind.wrap .u32 ((v[i].toNat * 2 ^ (8 * i) : Nat) : Int) = ((v[i].toNat * 2 ^ (8 * i) : Nat) : Int) := wr_u32 ⟨by omega, by omega⟩
      have ih := get32_loop hv m (i + 1) (by omega) (by omega)
      simp only [decide_eq_true (show (i : Int) < (v.length : Int) by omega), cond_true, getI_nat, hx, Option.bind_some, shl_of (show i ≤ 7 by omega) hc, hw, hwr]
      rw [or_add (k := .u32) (n := 32) rfl rfl hlt hle (by omega), ← hta]
      exact ih
    · simp only [decide_eq_false (show ¬ (i : Int) < (v.length : Int) by omega), cond_false]
      rw [List.take_of_length_le (by omega)]

/-! ### Taking -/
theorem take_ok {s : List UInt8} {n : Nat} (h : n ≤ s.length) (hs : s.length ≤ 1000000) : m_codec_left_take F ⟨s, 0⟩ (n : Int) = some (⟨s.drop n, 0⟩, s.take n, true) := by
  have hw : IntKind.wrap .u64 (s.length : Int) = (s.length : Int) := wr_u64 ⟨by omega, by omega⟩
  simp only [m_codec_left_take, hw]
  rw [cutI_of (lo := 0) (hi := (n : Int)) (i := 0) (j := n) (ys := s.take n) rfl rfl (by omega) h (by simp), cutI_of (lo := (n : Int)) (hi := (s.length : Int)) (i := n) (j := s.length) (ys := s.drop n) rfl rfl h (Nat.le_refl _) (by rw [List.take_length])]
  simp [show ¬ (s.length : Int) < (n : Int) by omega]

theorem take_short {s : List UInt8} {n : Int} (h : (s.length : Int) < n) (hs : s.length ≤ 1000000) : m_codec_left_take F ⟨s, 0⟩ n = some (⟨[], 10⟩, [], false) := by
  have hw : IntKind.wrap .u64 (s.length : Int) = (s.length : Int) := wr_u64 ⟨by omega, by omega⟩
  simp [m_codec_left_take, m_codec_left_fail, hw, h]

theorem take_err {s : List UInt8} {e n : Int} (h : e ≠ 0) : m_codec_left_take F ⟨s, e⟩ n = some (⟨s, e⟩, [], false) := by
  simp [m_codec_left_take, bne_iff_ne.2 h]

/-- The two readers in step. -/
def rdr (S : List UInt8) (a : Nat) (e : Int) : T_codec_Reader := ⟨⟨if e = 0 then S.drop a else [], e⟩⟩



def numv (S : List UInt8) (a : Nat) (e : Int) (k : Nat) : Nat × Int × Nat := if e = 0 then (if a + k ≤ S.length then (a + k, 0, lev ((S.drop a).take k)) else (a, 10, 0)) else (a, e, 0)


theorem get8_of {S : List UInt8} {a : Nat} {e : Int} (ha : a ≤ S.length) (hS : S.length ≤ 1000000) (hF : 10 ≤ F) :
    m_codec_get_uint8 F (rdr S a e) 1 = some (rdr S (numv S a e 1).1 (numv S a e 1).2.1, (((numv S a e 1).2.2 : Nat) : Int)) := by
  unfold numv
  have hw : IntKind.wrap .u64 (1 : Int) = ((1 : Nat) : Int) := by rw [wr_u64 ⟨by omega, by omega⟩]; rfl
  simp only [m_codec_get_uint8, hw]
  have h0 : m_codec_get_uint8_L16 F [] F 0 0 = some 0 := get8_loop (F := F) (v := []) (by simp) F 0 (by simp; omega) (by simp)
  by_cases he : e = 0
  · subst he
    by_cases h1 : a + 1 ≤ S.length
    · have ht := take_ok (F := F) (s := S.drop a) (n := 1) (by simp; omega) (by simp; omega)
      have hl := get8_loop (F := F) (v := (S.drop a).take 1) (by simp; omega) F 0 (by simp; omega) (by omega)
      have hl' : m_codec_get_uint8_L16 F ((S.drop a).take 1) F 0 0 = some ((lev ((S.drop a).take 1) : Nat) : Int) := hl
      simp only [rdr, if_true, ht, Option.bind_some, hl', h1, List.drop_drop]
    · have ht := take_short (F := F) (s := S.drop a) (n := ((1 : Nat) : Int)) (by simp; omega) (by simp; omega)
      simp only [rdr, if_true, ht, Option.bind_some, h0, h1, if_false]
      simp
  · have ht := take_err (F := F) (s := []) (e := e) (n := ((1 : Nat) : Int)) he
    simp only [rdr, if_neg he, ht, Option.bind_some, h0]
    simp

theorem get16_of {S : List UInt8} {a : Nat} {e : Int} (ha : a ≤ S.length) (hS : S.length ≤ 1000000) (hF : 10 ≤ F) :
    m_codec_get_uint16 F (rdr S a e) 2 = some (rdr S (numv S a e 2).1 (numv S a e 2).2.1, (((numv S a e 2).2.2 : Nat) : Int)) := by
  unfold numv
  have hw : IntKind.wrap .u64 (2 : Int) = ((2 : Nat) : Int) := by rw [wr_u64 ⟨by omega, by omega⟩]; rfl
  simp only [m_codec_get_uint16, hw]
  have h0 : m_codec_get_uint16_L16 F [] F 0 0 = some 0 := get16_loop (F := F) (v := []) (by simp) F 0 (by simp; omega) (by simp)
  by_cases he : e = 0
  · subst he
    by_cases h1 : a + 2 ≤ S.length
    · have ht := take_ok (F := F) (s := S.drop a) (n := 2) (by simp; omega) (by simp; omega)
      have hl := get16_loop (F := F) (v := (S.drop a).take 2) (by simp; omega) F 0 (by simp; omega) (by omega)
      have hl' : m_codec_get_uint16_L16 F ((S.drop a).take 2) F 0 0 = some ((lev ((S.drop a).take 2) : Nat) : Int) := hl
      simp only [rdr, if_true, ht, Option.bind_some, hl', h1, List.drop_drop]
    · have ht := take_short (F := F) (s := S.drop a) (n := ((2 : Nat) : Int)) (by simp; omega) (by simp; omega)
      simp only [rdr, if_true, ht, Option.bind_some, h0, h1, if_false]
      simp
  · have ht := take_err (F := F) (s := []) (e := e) (n := ((2 : Nat) : Int)) he
    simp only [rdr, if_neg he, ht, Option.bind_some, h0]
    simp

theorem get32_of {S : List UInt8} {a : Nat} {e : Int} (ha : a ≤ S.length) (hS : S.length ≤ 1000000) (hF : 10 ≤ F) :
    m_codec_get_uint32 F (rdr S a e) 4 = some (rdr S (numv S a e 4).1 (numv S a e 4).2.1, (((numv S a e 4).2.2 : Nat) : Int)) := by
  unfold numv
  have hw : IntKind.wrap .u64 (4 : Int) = ((4 : Nat) : Int) := by rw [wr_u64 ⟨by omega, by omega⟩]; rfl
  simp only [m_codec_get_uint32, hw]
  have h0 : m_codec_get_uint32_L16 F [] F 0 0 = some 0 := get32_loop (F := F) (v := []) (by simp) F 0 (by simp; omega) (by simp)
  by_cases he : e = 0
  · subst he
    by_cases h1 : a + 4 ≤ S.length
    · have ht := take_ok (F := F) (s := S.drop a) (n := 4) (by simp; omega) (by simp; omega)
      have hl := get32_loop (F := F) (v := (S.drop a).take 4) (by simp; omega) F 0 (by simp; omega) (by omega)
      have hl' : m_codec_get_uint32_L16 F ((S.drop a).take 4) F 0 0 = some ((lev ((S.drop a).take 4) : Nat) : Int) := hl
      simp only [rdr, if_true, ht, Option.bind_some, hl', h1, List.drop_drop]
    · have ht := take_short (F := F) (s := S.drop a) (n := ((4 : Nat) : Int)) (by simp; omega) (by simp; omega)
      simp only [rdr, if_true, ht, Option.bind_some, h0, h1, if_false]
      simp
  · have ht := take_err (F := F) (s := []) (e := e) (n := ((4 : Nat) : Int)) he
    simp only [rdr, if_neg he, ht, Option.bind_some, h0]
    simp

theorem get64_of {S : List UInt8} {a : Nat} {e : Int} (ha : a ≤ S.length) (hS : S.length ≤ 1000000) (hF : 10 ≤ F) :
    m_codec_get_uint64 F (rdr S a e) 8 = some (rdr S (numv S a e 8).1 (numv S a e 8).2.1, (((numv S a e 8).2.2 : Nat) : Int)) := by
  unfold numv
  have hw : IntKind.wrap .u64 (8 : Int) = ((8 : Nat) : Int) := by rw [wr_u64 ⟨by omega, by omega⟩]; rfl
  simp only [m_codec_get_uint64, hw]
  have h0 : m_codec_get_uint64_L16 F [] F 0 0 = some 0 := get64_loop (F := F) (v := []) (by simp) F 0 (by simp; omega) (by simp)
  by_cases he : e = 0
  · subst he
    by_cases h1 : a + 8 ≤ S.length
    · have ht := take_ok (F := F) (s := S.drop a) (n := 8) (by simp; omega) (by simp; omega)
      have hl := get64_loop (F := F) (v := (S.drop a).take 8) (by simp; omega) F 0 (by simp; omega) (by omega)
      have hl' : m_codec_get_uint64_L16 F ((S.drop a).take 8) F 0 0 = some ((lev ((S.drop a).take 8) : Nat) : Int) := hl
      simp only [rdr, if_true, ht, Option.bind_some, hl', h1, List.drop_drop]
    · have ht := take_short (F := F) (s := S.drop a) (n := ((8 : Nat) : Int)) (by simp; omega) (by simp; omega)
      simp only [rdr, if_true, ht, Option.bind_some, h0, h1, if_false]
      simp
  · have ht := take_err (F := F) (s := []) (e := e) (n := ((8 : Nat) : Int)) he
    simp only [rdr, if_neg he, ht, Option.bind_some, h0]
    simp

end Go.Proofs.YtekplmhmppdpcaaDoor
