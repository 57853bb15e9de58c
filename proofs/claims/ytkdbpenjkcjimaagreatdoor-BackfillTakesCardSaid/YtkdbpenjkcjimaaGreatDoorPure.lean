/-
  Plain lemmas on what the printed models ask of numbers and lists.
-/
import Derived.Test.YtkdbpenjkcjimaaGreatDoorEng2
namespace Go.Proofs.YtkdbpenjkcjimaaGreatDoor.Eng
open Go Go.Proofs.YtkdbpenjkcjimaaGreatDoor.Eng

theorem wr_u64 {x : Int} (h : 0 ≤ x ∧ x ≤ 18446744073709551615) : IntKind.wrap .u64 x = x := by simp only [IntKind.wrap, IntKind.bits, IntKind.signed]; simp; omega
theorem wr_i64 {x : Int} (h : -9223372036854775808 ≤ x ∧ x ≤ 9223372036854775807) : IntKind.wrap .i64 x = x := by simp only [IntKind.wrap, IntKind.bits, IntKind.signed]; simp; omega
theorem wr_i32 {x : Int} (h : -2147483648 ≤ x ∧ x ≤ 2147483647) : IntKind.wrap .i32 x = x := by simp only [IntKind.wrap, IntKind.bits, IntKind.signed]; simp; omega
theorem wr_u32 {x : Int} (h : 0 ≤ x ∧ x ≤ 4294967295) : IntKind.wrap .u32 x = x := by simp only [IntKind.wrap, IntKind.bits, IntKind.signed]; simp; omega
theorem wr_u16 {x : Int} (h : 0 ≤ x ∧ x ≤ 65535) : IntKind.wrap .u16 x = x := by simp only [IntKind.wrap, IntKind.bits, IntKind.signed]; simp; omega
theorem wr_u8 {x : Int} (h : 0 ≤ x ∧ x ≤ 255) : IntKind.wrap .u8 x = x := by simp only [IntKind.wrap, IntKind.bits, IntKind.signed]; simp; omega

theorem getI_nat {α : Type} (xs : List α) (i : Nat) : getI xs (i : Int) = xs[i]? := by simp [getI]
theorem getI_of {α : Type} {xs : List α} {i : Nat} {v : Int} {x : α} (hv : v = (i : Int)) (hx : xs[i]? = some x) : getI xs v = some x := by subst hv; rw [getI_nat, hx]
theorem cutI_of {α : Type} {xs ys : List α} {lo hi : Int} {i j : Nat} (hl : lo = (i : Int)) (hh : hi = (j : Int)) (h1 : i ≤ j) (h2 : j ≤ xs.length) (hy : ys = (xs.take j).drop i) : cutI xs lo hi = some ys := by
  subst hl; subst hh; subst hy
  unfold cutI
  rw [if_pos ⟨by omega, by omega, by omega⟩]
  simp
theorem cut3I_of {α : Type} {xs ys : List α} {lo hi mx : Int} {i j : Nat} (hl : lo = (i : Int)) (hh : hi = (j : Int)) (hm : mx = (j : Int)) (h1 : i ≤ j) (h2 : j ≤ xs.length) (hy : ys = (xs.take j).drop i) : cut3I xs lo hi mx = some ys := by
  unfold cut3I
  rw [if_pos ⟨by omega, by omega⟩]
  exact cutI_of hl hh h1 h2 hy
theorem appI_of {α : Type} {xs ys : List α} (h : xs.length + ys.length ≤ 1073741824) : appI xs ys = some (xs ++ ys) := by unfold appI; rw [if_pos h]

/-- What a row's fact on a slice gives: the elements as a list. -/
theorem rd_listz {T : List (Nat × TI)} {α : Type} {enc : α → List Value} {W : World} {t e size bytes fuel s1 b1 : Nat} {td : TD} {z1 z : Option (List Value)} {ok : α → Prop} {v : Value} (hR : Rdw T W (fuel + 1) t [v]) (hlt : lookT T t = some ⟨.slice e, s1, b1, z1⟩) (hle : lookT T e = some ⟨td, size, bytes, z⟩)
    (he : ∀ x, (enc x).length = size) (hel : ∀ es, es.length = size → Rdw T W fuel e es → ∃ x, es = enc x ∧ ok x) :
    ∃ (a : Option Addr) (n cap : Nat) (xs : List α), v = .slice a n cap ∧ n = xs.length ∧ n ≤ cap ∧ cap * bytes ≤ maxB ∧ Rds W [] [] a (flat enc xs) ∧ (∀ x ∈ xs, ok x) ∧ (a = none → cap = 0) := by
  unfold Rdw at hR
  simp only [hlt, hle] at hR
  obtain ⟨a, len, cap, hv, hlc, hcap, hi, hz⟩ := hR
  obtain rfl : v = .slice a len cap := by simpa using hv
  have key : ∀ m, m ≤ len → ∃ xs : List α, xs.length = m ∧ (∀ x ∈ xs, ok x) ∧ (∀ j u, (flat enc xs)[j]? = some u → W.cell? ((adOf a).add j) = some u) ∧ (0 < m * size → a.isSome = true ∧ (adOf a).block < W.heap.size) := by
    intro m
    induction m with
    | zero => intro _; exact ⟨[], rfl, by simp, by simp [flat], by simp⟩
    | succ m ih =>
      intro hm
      obtain ⟨xs, h1, h2, h3, h4⟩ := ih (by omega)
      obtain ⟨b, es, hab, hes, hc, hb, hr⟩ := hi m (by omega)
      obtain ⟨x, rfl, hx⟩ := hel es hes hr
      refine ⟨xs ++ [x], by simp [h1], ?_, ?_, ?_⟩
      · intro y hy
        rcases List.mem_append.1 hy with hy | hy
        · exact h2 y hy
        · obtain rfl : y = x := by simpa using hy
          exact hx
      · intro j u hj
        rw [flat_append, flat_one] at hj
        have hfl : (flat enc xs).length = m * size := by rw [flat_length he, h1]
        rcases Nat.lt_or_ge j (m * size) with hlt | hge
        · rw [List.getElem?_append_left (by omega)] at hj
          exact h3 j u hj
        · rw [List.getElem?_append_right (by omega), hfl] at hj
          have := hc (j - m * size) u hj
          rw [show m * size + (j - m * size) = j by omega] at this
          rw [hab]; exact this
      · intro hp
        have hs : 0 < size := by
          rcases Nat.eq_zero_or_pos size with h0 | h0
          · rw [h0] at hp; simp at hp
          · exact h0
        exact ⟨by rw [hab]; rfl, by rw [hab]; exact hb 0 hs⟩
  obtain ⟨xs, h1, h2, h3, h4⟩ := key len (Nat.le_refl _)
  refine ⟨a, len, cap, xs, rfl, h1.symm, hlc, hcap, ?_, h2, hz⟩
  have hfl : (flat enc xs).length = len * size := by rw [flat_length he, h1]
  have pos : flat enc xs ≠ [] → 0 < len * size := fun hne => by
    rw [← hfl]; exact List.length_pos_iff.2 hne
  have old : flat enc xs ≠ [] → Old W [] (adOf a) (flat enc xs) := fun hne => ⟨fun _ => (h4 (pos hne)).2, by simp, h3⟩
  refine ⟨fun hne => ⟨(h4 (pos hne)).1, .inr ⟨(h4 (pos hne)).2, by simp⟩⟩, fun w hI => ?_⟩
  intro j u hu
  have hne : flat enc xs ≠ [] := by intro h0; rw [h0] at hu; simp at hu
  exact (old hne).now hI j u hu

theorem rd_list {T : List (Nat × TI)} {α : Type} {enc : α → List Value} {W : World} {t e size bytes fuel s1 b1 : Nat} {td : TD} {z1 z : Option (List Value)} {ok : α → Prop} {v : Value} (hR : Rdw T W (fuel + 1) t [v]) (hlt : lookT T t = some ⟨.slice e, s1, b1, z1⟩) (hle : lookT T e = some ⟨td, size, bytes, z⟩)
    (he : ∀ x, (enc x).length = size) (hel : ∀ es, es.length = size → Rdw T W fuel e es → ∃ x, es = enc x ∧ ok x) :
    ∃ (a : Option Addr) (n cap : Nat) (xs : List α), v = .slice a n cap ∧ n = xs.length ∧ n ≤ cap ∧ cap * bytes ≤ maxB ∧ Rds W [] [] a (flat enc xs) ∧ ∀ x ∈ xs, ok x := by
  obtain ⟨a, n, cap, xs, h1, h2, h3, h4, h5, h6, _⟩ := rd_listz hR hlt hle he hel
  exact ⟨a, n, cap, xs, h1, h2, h3, h4, h5, h6⟩

/-! Answers joined by `and`, `or`. -/
theorem and_some (a b : Bool) : cond a (some b) (some false) = some (a && b) := by cases a <;> rfl
theorem or_some (a b : Bool) : cond a (some true) (some b) = some (a || b) := by cases a <;> rfl

end Go.Proofs.YtkdbpenjkcjimaaGreatDoor.Eng
