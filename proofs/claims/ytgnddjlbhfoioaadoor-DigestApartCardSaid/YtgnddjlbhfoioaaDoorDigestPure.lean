/-
  Chapter 10: what the digests are, in plain Lean.
-/
import Derived.Test.YtgnddjlbhfoioaaDoorMod
import Derived.Test.YtgnddjlbhfoioaaDoorPure
namespace Go.Proofs.YtgnddjlbhfoioaaDoor
open Go Go.Proofs.YtgnddjlbhfoioaaDoor.Eng
set_option linter.unusedSimpArgs false
set_option linter.unusedVariables false
set_option maxHeartbeats 1000000

variable {F : Nat}

def stp (h c : Int) : Int := IntKind.wrap .u64 ((bits .xor .u64 h (IntKind.wrap .u64 c)) * 1099511628211)
def mixv (h : Int) (p : Int × Int) : Int := stp (stp h p.1) p.2

theorem going_of (h : Int) (p : Int × Int) (hF : 3 ≤ F) : m_digest_going_1 F p h = some (mixv h p, mixv h p) := by
  obtain ⟨m, rfl⟩ : ∃ m, F = m + 3 := ⟨F - 3, by omega⟩
  have w1 : IntKind.wrap .i64 ((0 : Int) + 1) = 1 := wr_i64 ⟨by omega, by omega⟩
  have w2 : IntKind.wrap .i64 ((1 : Int) + 1) = 2 := wr_i64 ⟨by omega, by omega⟩
  have d0 : decide ((0 : Int) < 2) = true := decide_eq_true (by omega)
  have d1 : decide ((1 : Int) < 2) = true := decide_eq_true (by omega)
  have d2 : decide ((2 : Int) < 2) = false := decide_eq_false (by omega)
  have b0 : ((0 : Int) == 0) = true := beq_self_eq_true _
  have b1 : ((1 : Int) == 0) = false := beq_eq_false_iff_ne.2 (by omega)
  have b2 : ((1 : Int) == 1) = true := beq_self_eq_true _
  simp only [m_digest_going_1, m_digest_going_1_L6, w1, w2, d0, d1, d2, b0, b1, b2, cond_true, cond_false, Option.bind_some, mixv, stp]

theorem mix_of (h : Int) (p : Int × Int) (hF : 3 ≤ F) : m_digest_Mix F h p = some (mixv h p) := by
  simp only [m_digest_Mix, m_digest_going, Option.bind_some, going_of h p hF]

theorem chain_loop {l : List (Int × Int)} (hF : 3 ≤ F) (hl : l.length ≤ 1000000) : ∀ (m i : Nat) (h : Int), l.length - i < m → i ≤ l.length →
    m_digest_Chain_L8 F l m h (i : Int) h = some ((l.drop i).foldl mixv h, (l.drop i).foldl mixv h)
  | 0, i, h, hm, _ => by omega
  | m + 1, i, h, hm, hi => by
    rw [m_digest_Chain_L8.eq_2]
    by_cases h1 : i < l.length
    · have hx : l[i]? = some l[i] := List.getElem?_eq_getElem h1
      have hw : IntKind.wrap .i64 ((i : Int) + 1) = ((i + 1 : Nat) : Int) := by rw [wr_i64 ⟨by omega, by omega⟩]; omega
      have ih := chain_loop hF hl m (i + 1) (mixv h l[i]) (by omega) (by omega)
      simp only [decide_eq_true (show (i : Int) < (l.length : Int) by omega), cond_true, getI_nat, hx, Option.bind_some, going_of h _ hF, hw, ih]
      rw [List.drop_eq_getElem_cons h1, List.foldl_cons]
    · simp only [decide_eq_false (show ¬ (i : Int) < (l.length : Int) by omega), cond_false]
      rw [List.drop_of_length_le (by omega)]
      rfl
theorem chain_of {l : List (Int × Int)} (hF : 3 ≤ F) (hl : l.length < F) (hs : l.length ≤ 1000000) : m_digest_Chain F l = some (l.foldl mixv 14695981039346656037) := by
  have := chain_loop (F := F) (l := l) hF hs F 0 14695981039346656037 (by omega) (by omega)
  simp only [m_digest_Chain, m_digest_going, Option.bind_some]
  rw [show (0 : Int) = ((0 : Nat) : Int) from rfl, this]
  rfl

theorem join_loop {s : List UInt8} (hs : s.length ≤ 1000000) : ∀ (m i : Nat) (h : Int), s.length - i < m → i ≤ s.length →
    m_digest_Join_L6 F s m h (i : Int) = some ((s.drop i).foldl (fun h (c : UInt8) => stp h (c.toNat : Int)) h)
  | 0, i, h, hm, _ => by omega
  | m + 1, i, h, hm, hi => by
    rw [m_digest_Join_L6.eq_2]
    by_cases h1 : i < s.length
    · have hx : s[i]? = some s[i] := List.getElem?_eq_getElem h1
      have hw : IntKind.wrap .i64 ((i : Int) + 1) = ((i + 1 : Nat) : Int) := by rw [wr_i64 ⟨by omega, by omega⟩]; omega
      have ih := join_loop hs m (i + 1) (stp h (s[i].toNat : Int)) (by omega) (by omega)
      simp only [decide_eq_true (show (i : Int) < (s.length : Int) by omega), cond_true, getI_nat, hx, Option.bind_some, hw]
      rw [List.drop_eq_getElem_cons h1, List.foldl_cons]
      exact ih
    · simp only [decide_eq_false (show ¬ (i : Int) < (s.length : Int) by omega), cond_false]
      rw [List.drop_of_length_le (by omega)]
      rfl

def joinv (h : Int) (s : List UInt8) : Int := s.foldl (fun h (c : UInt8) => stp h (c.toNat : Int)) h

theorem join_of {s : List UInt8} {h : Int} (hl : s.length < F) (hs : s.length ≤ 1000000) : m_digest_Join F h s = some (joinv h s) := by
  have := join_loop (F := F) (s := s) hs F 0 h (by omega) (by omega)
  simp only [m_digest_Join]
  rw [show (0 : Int) = ((0 : Nat) : Int) from rfl, this]
  rfl

theorem joinv_append (h : Int) (s t : List UInt8) : joinv h (s ++ t) = joinv (joinv h s) t := by simp [joinv, List.foldl_append]

end Go.Proofs.YtgnddjlbhfoioaaDoor
