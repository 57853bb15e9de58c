/-
  Chapter 02: what the writer and the document's bytes are, in plain Lean.
-/
import Derived.Test.YtkdbpenjkcjimaaGreatDoorMod
import Derived.Test.YtkdbpenjkcjimaaGreatDoorPure
namespace Go.Proofs.YtkdbpenjkcjimaaGreatDoor
open Go Go.Proofs.YtkdbpenjkcjimaaGreatDoor.Eng
set_option linter.unusedSimpArgs false
set_option linter.unusedVariables false
set_option maxHeartbeats 1000000

/-- A number's bytes, the least first. -/
def le : Nat → Nat → List Nat
  | 0, _ => []
  | k + 1, n => n % 256 :: le k (n / 256)
def iL (l : List Nat) : List Int := l.map fun (n : Nat) => (n : Int)

theorem iL_append (a b : List Nat) : iL (a ++ b) = iL a ++ iL b := by simp [iL]
theorem iL_length (a : List Nat) : (iL a).length = a.length := by simp [iL]
theorem le_length : ∀ k n, (le k n).length = k
  | 0, _ => rfl
  | k + 1, n => by simp [le, le_length k]
theorem le_mod : ∀ (k n : Nat), le k (n % 256 ^ k) = le k n
  | 0, _ => rfl
  | k + 1, n => by
    simp only [le]
    have h1 : n % 256 ^ (k + 1) % 256 = n % 256 := Nat.mod_mod_of_dvd _ ⟨256 ^ k, by rw [Nat.pow_succ, Nat.mul_comm]⟩
    have h2 : n % 256 ^ (k + 1) / 256 = n / 256 % 256 ^ k := by rw [Nat.pow_succ, Nat.mul_comm, Nat.mod_mul_right_div_self]
    rw [h1, h2, le_mod k]

theorem wr_u8m (n : Nat) : IntKind.wrap .u8 (n : Int) = ((n % 256 : Nat) : Int) := by simp [IntKind.wrap, IntKind.bits, IntKind.signed]
theorem wr_u16m (n : Nat) : IntKind.wrap .u16 (n : Int) = ((n % 65536 : Nat) : Int) := by simp [IntKind.wrap, IntKind.bits, IntKind.signed]
theorem wr_u32m (n : Nat) : IntKind.wrap .u32 (n : Int) = ((n % 4294967296 : Nat) : Int) := by simp [IntKind.wrap, IntKind.bits, IntKind.signed]
theorem wr_i32m (n : Nat) : IntKind.wrap .u32 (IntKind.wrap .i32 (n : Int)) = ((n % 4294967296 : Nat) : Int) := by
  simp only [IntKind.wrap, IntKind.bits, IntKind.signed]; simp; split <;> omega

theorem shr_of {n i : Nat} (hi : i ≤ 7) : shrI .u64 (n : Int) (IntKind.wrap .i64 ((8 : Int) * (i : Int))) = some ((n / 2 ^ (8 * i) : Nat) : Int) := by
  rw [wr_i64 ⟨by omega, by omega⟩]
  unfold shrI
  rw [if_pos (by omega)]
  have h : ((8 : Int) * (i : Int)).toNat = 8 * i := by omega
  have hb : IntKind.bits .u64 = 64 := rfl
  rw [h, hb, Nat.min_eq_left (by omega)]
  simp

theorem step_shift (n i : Nat) : n / 2 ^ (8 * i) / 256 = n / 2 ^ (8 * (i + 1)) := by
  rw [Nat.div_div_eq_div_mul, show 8 * (i + 1) = 8 * i + 8 by omega, Nat.pow_add]

variable {F : Nat}












/-- A number of few bytes as it is needed. -/
def vb : Nat → Nat → List Nat
  | 0, n => [n % 256]
  | f + 1, n => if n < 128 then [n] else (n % 128 + 128) :: vb f (n / 128)

theorem or128 : ∀ k : Fin 256, bits .or .u8 (k.val : Int) 128 = ((k.val % 128 + 128 : Nat) : Int) := by decide +kernel
theorem le1 {n : Nat} (h : n < 256) : iL (le 1 n) = [(n : Int)] := by simp [le, iL, Nat.mod_eq_of_lt h]





end Go.Proofs.YtkdbpenjkcjimaaGreatDoor
