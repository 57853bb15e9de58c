/-
  Chapter 26: the law RollbackComes: what is shown, with all inputs known, is what is confirmed then.
-/
import Derived.Test.YtkekgagekgadmaaDoorRollPure
import Derived.Test.YtkekgagekgadmaaDoorStateRow
import Derived.Test.YtkekgagekgadmaaDoorCards
import Derived.Test.YtkekgagekgadmaaDoorTie
import Derived.Test.YtkekgagekgadmaaDoorLaid
import Derived.Test.YtkekgagekgadmaaDoorWalk
import Derived.Deep.DeepHandedRow
namespace Go.Proofs.YtkekgagekgadmaaDoor
open Go.Proofs.YtkekgagekgadmaaDoor.Eng Go.RowKit Go.ChangeShapes Go.WideShapes Go.ChangeAt
set_option linter.unusedSimpArgs false
set_option linter.unusedVariables false
set_option maxHeartbeats 2000000
set_option maxRecDepth 20000

variable {F : Nat}

def atg (l : List Int) (f : Nat) : Int := if f < l.length then Int.tmod (l.getD f 0) 64 else 0
theorem at_of (l : List Int) (f : Nat) : m_hindcastlaw26_at F l (f : Int) = some (atg l f) := by
  unfold m_hindcastlaw26_at atg
  by_cases h : f < l.length
  · rw [if_pos h, decide_eq_true (show (f : Int) < (l.length : Int) by omega), cond_true, getI_nat, List.getElem?_eq_getElem h, List.getD_eq_getElem?_getD, List.getElem?_eq_getElem h]
    rfl
  · rw [if_neg h, decide_eq_false (show ¬ (f : Int) < (l.length : Int) by omega), cond_false]
theorem atg_lt (l : List Int) (f : Nat) : atg l f < 64 := by
  unfold atg
  split
  · exact Int.tmod_lt_of_pos _ (by omega)
  · omega
theorem addv_new {b k : Nat} {L : List Int} {p : Nat} {i : Int} (hi : i < 64) (hk : k ≤ L.length) (hp : p = b + L.length) (hu : p < 18446744073709551615) (h24 : L.length - k < 24) : addv b k L p i = (L ++ [i], 0) := by
  unfold addv
  rw [if_neg (by omega), if_neg (by omega), if_neg (by omega), if_neg (by omega), if_neg (by omega)]

theorem u64_n {j : Nat} (h : j ≤ 1000000) : IntKind.wrap .u64 (j : Int) = (j : Int) := wr_u64 ⟨by omega, by omega⟩
theorem i64_s {j : Nat} (h : j ≤ 1000000) : IntKind.wrap .i64 ((j : Int) + 1) = ((j + 1 : Nat) : Int) := by rw [wr_i64 ⟨by omega, by omega⟩]; omega

section
variable {g : T_hindcastlaw26_Game} {p1 v83 : Int} {n kk : Nat}

theorem comes1 (hF : 1010 ≤ F) (hn : IntKind.wrap .i64 (Int.tmod p1 40) = (n : Int)) (hn4 : n ≤ 40) : ∀ (m j : Nat) (x : T_rollback_Engine) (q : T_queue_Queue) (r : T_ring_Ring) (L : List Int), n - j < m → j ≤ n → EI x q r 0 j L → L.length = j → x.own = [] →
    ∃ x' q' r' L', m_hindcastlaw26_RollbackComes_L28 F g p1 m (j : Int) x.player x.window x.sure.Frame x.sure.Seed x.sure.Players x.sure.Shots x.sure.Score x.own q.first_ q.l q.last r.size r.places =
      some (.inl (false, x'.player, x'.window, x'.sure.Frame, x'.sure.Seed, x'.sure.Players, x'.sure.Shots, x'.sure.Score, x'.own, q'.first_, q'.l, q'.last, r'.size, r'.places)) ∧
      EI x' q' r' 0 n L' ∧ L'.length = n ∧ x'.own = [] ∧ x'.window = x.window
  | 0, j, x, q, r, L, h, _, _, _, _ => by omega
  | m + 1, j, x, q, r, L, h, hj, H, hL, ho => by
    rw [m_hindcastlaw26_RollbackComes_L28.eq_2, hn]
    by_cases hlt : j < n
    · have hw := H.w
      obtain ⟨e1, H1⟩ := local_ok (F := F) H (atg_lt g.Mine j) (by rw [ho]; show ((0 : Nat) : Int) < x.window; omega)
      obtain ⟨r2, e2, H2⟩ := shown_of (F := F) H1 hF
      obtain ⟨r3, e3, H3⟩ := remote_of (F := F) H2 hF (by omega) j (atg g.Theirs j)
      rw [addv_new (atg_lt _ _) H.hk (by omega) (by omega) (by omega)] at e3 H3
      have hfr := H.fr
      obtain ⟨r4, e4, H4⟩ := confirm_yes (F := F) H3 hF (f := ((j + 1 : Nat) : Int)) (o := atg g.Mine j) (os := []) (by show x.own ++ _ = _; rw [ho]; rfl) (by simp; omega) (by show x.sure.Frame < _; omega)
      obtain ⟨x', q', r', L', e5, R1, R2, R3, R4⟩ := comes1 hF hn hn4 m (j + 1) _ _ r4 _ (by omega) (by omega) H4 (by simp; omega) rfl
      have e1' : m_rollback_Engine_Local F (T_rollback_Engine.mk x.player x.window (T_api_State.mk x.sure.Frame x.sure.Seed x.sure.Players x.sure.Shots x.sure.Score) x.own) (T_queue_Queue.mk q.first_ q.l q.last) (T_ring_Ring.mk r.size r.places) (atg g.Mine j) = _ := e1
      have e2' : m_rollback_Engine_Shown F ⟨x.player, x.window, x.sure, x.own ++ [atg g.Mine j]⟩ (T_queue_Queue.mk q.first_ q.l q.last) (T_ring_Ring.mk r.size r.places) = _ := e2
      have e3' : m_rollback_Engine_Remote F ⟨x.player, x.window, x.sure, x.own ++ [atg g.Mine j]⟩ (T_queue_Queue.mk q.first_ q.l q.last) r2 (j : Int) (atg g.Theirs j) = _ := e3
      refine ⟨x', q', r', L', ?_, R1, R2, R3, R4⟩
      rw [decide_eq_true (show (j : Int) < (n : Int) by omega), cond_true]
      simp only [at_of, Option.bind_some, e1', e2', u64_n (show j ≤ 1000000 by omega), e3', i64_s (show j ≤ 1000000 by omega), u64_n (show j + 1 ≤ 1000000 by omega), e4, Bool.not_true, cond_false]
      exact e5
    · obtain rfl : j = n := by omega
      rw [decide_eq_false (show ¬ (j : Int) < (j : Int) by omega), cond_false]
      exact ⟨x, q, r, L, rfl, H, hL, ho, rfl⟩

theorem comes2 (hF : 1010 ≤ F) (hb : IntKind.wrap .i64 (IntKind.wrap .i64 (Int.tmod p1 40) + IntKind.wrap .i64 ((1 : Int) + v83)) = ((n + kk : Nat) : Int)) (hn4 : n + kk ≤ 100) {l29 : Bool} {q : T_queue_Queue} {L : List Int} {w : Int} (hkw : (kk : Int) ≤ w) : ∀ (m j : Nat) (x : T_rollback_Engine) (r : T_ring_Ring), n + kk - j < m → n ≤ j → j ≤ n + kk → EI x q r 0 n L → x.own.length = j - n → x.window = w →
    ∃ x' r', m_hindcastlaw26_RollbackComes_L59 F g p1 l29 q.first_ q.l q.last v83 m (j : Int) x.player x.window x.sure.Frame x.sure.Seed x.sure.Players x.sure.Shots x.sure.Score x.own r.size r.places =
      some (.inl (l29, x'.player, x'.window, x'.sure.Frame, x'.sure.Seed, x'.sure.Players, x'.sure.Shots, x'.sure.Score, x'.own, r'.size, r'.places)) ∧
      EI x' q r' 0 n L ∧ x'.own.length = kk
  | 0, j, x, r, h, _, _, _, _, _ => by omega
  | m + 1, j, x, r, h, hnj, hj, H, ho, hxw => by
    rw [m_hindcastlaw26_RollbackComes_L59.eq_2, hb]
    by_cases hlt : j < n + kk
    · obtain ⟨e1, H1⟩ := local_ok (F := F) H (atg_lt g.Mine j) (by rw [ho, hxw]; omega)
      obtain ⟨r2, e2, H2⟩ := shown_of (F := F) H1 hF
      obtain ⟨x', r', e5, R1, R2⟩ := comes2 hF hb hn4 hkw m (j + 1) _ r2 (by omega) (by omega) (by omega) H2 (by simp; omega) hxw
      have e1' : m_rollback_Engine_Local F (T_rollback_Engine.mk x.player x.window (T_api_State.mk x.sure.Frame x.sure.Seed x.sure.Players x.sure.Shots x.sure.Score) x.own) (T_queue_Queue.mk q.first_ q.l q.last) (T_ring_Ring.mk r.size r.places) (atg g.Mine j) = _ := e1
      have e2' : m_rollback_Engine_Shown F ⟨x.player, x.window, x.sure, x.own ++ [atg g.Mine j]⟩ (T_queue_Queue.mk q.first_ q.l q.last) (T_ring_Ring.mk r.size r.places) = _ := e2
      refine ⟨x', r', ?_, R1, R2⟩
      rw [decide_eq_true (show (j : Int) < ((n + kk : Nat) : Int) by omega), cond_true]
      simp only [at_of, Option.bind_some, e1', show ((0 : Int) != 0) = false from rfl, cond_false, e2', i64_s (show j ≤ 1000000 by omega)]
      exact e5
    · obtain rfl : j = n + kk := by omega
      rw [decide_eq_false (show ¬ ((n + kk : Nat) : Int) < ((n + kk : Nat) : Int) by omega), cond_false]
      exact ⟨x, r, rfl, H, by omega⟩

theorem comes3 (hF : 1010 ≤ F) (hb : IntKind.wrap .i64 (IntKind.wrap .i64 (Int.tmod p1 40) + IntKind.wrap .i64 ((1 : Int) + v83)) = ((n + kk : Nat) : Int)) (hn4 : n + kk ≤ 100) (hk12 : kk ≤ 12) {l60 : Bool} {x : T_rollback_Engine} : ∀ (m j : Nat) (q : T_queue_Queue) (r : T_ring_Ring) (L : List Int), n + kk - j < m → n ≤ j → j ≤ n + kk → EI x q r 0 n L → L.length = j →
    ∃ q' r' L', m_hindcastlaw26_RollbackComes_L82 F g p1 v83 l60 x.player x.window x.sure.Frame x.sure.Seed x.sure.Players x.sure.Shots x.sure.Score x.own m (j : Int) q.first_ q.l q.last r.size r.places =
      some (.inl (l60, q'.first_, q'.l, q'.last, r'.size, r'.places)) ∧
      EI x q' r' 0 n L' ∧ L'.length = n + kk
  | 0, j, q, r, L, h, _, _, _, _ => by omega
  | m + 1, j, q, r, L, h, hnj, hj, H, hL => by
    rw [m_hindcastlaw26_RollbackComes_L82.eq_2, hb]
    by_cases hlt : j < n + kk
    · obtain ⟨r3, e3, H3⟩ := remote_of (F := F) H hF (by omega) j (atg g.Theirs j)
      rw [addv_new (atg_lt _ _) H.hk (by omega) (by omega) (by omega)] at e3 H3
      obtain ⟨q', r', L', e5, R1, R2⟩ := comes3 hF hb hn4 hk12 m (j + 1) _ r3 _ (by omega) (by omega) (by omega) H3 (by simp; omega)
      have e3' : m_rollback_Engine_Remote F (T_rollback_Engine.mk x.player x.window (T_api_State.mk x.sure.Frame x.sure.Seed x.sure.Players x.sure.Shots x.sure.Score) x.own) (T_queue_Queue.mk q.first_ q.l q.last) (T_ring_Ring.mk r.size r.places) (j : Int) (atg g.Theirs j) = _ := e3
      refine ⟨q', r', L', ?_, R1, R2⟩
      rw [decide_eq_true (show (j : Int) < ((n + kk : Nat) : Int) by omega), cond_true]
      simp only [at_of, Option.bind_some, u64_n (show j ≤ 1000000 by omega), e3', show ((0 : Int) != 0) = false from rfl, cond_false, i64_s (show j ≤ 1000000 by omega)]
      exact e5
    · obtain rfl : j = n + kk := by omega
      rw [decide_eq_false (show ¬ ((n + kk : Nat) : Int) < ((n + kk : Nat) : Int) by omega), cond_false]
      exact ⟨q, r, L, rfl, H, hL⟩

theorem comes4 (hF : 1010 ≤ F) (hb : IntKind.wrap .i64 (IntKind.wrap .i64 (Int.tmod p1 40) + IntKind.wrap .i64 ((1 : Int) + v83)) = ((n + kk : Nat) : Int)) (hn4 : n + kk ≤ 100) {l83 : Bool} {L : List Int} {S : T_api_State} (hL : L.length = n + kk) : ∀ (m j : Nat) (x : T_rollback_Engine) (q : T_queue_Queue) (r : T_ring_Ring), n + kk - j < m → j ≤ n + kk → EI x q r 0 j L → x.own.length = n + kk - j → shw x.sure x.player L j x.own x.own.length = S →
    ∃ x' q' r', m_hindcastlaw26_RollbackComes_L105 F p1 v83 l83 m (j : Int) x.player x.window x.sure.Frame x.sure.Seed x.sure.Players x.sure.Shots x.sure.Score x.own q.first_ q.l q.last r.size r.places =
      some (.inl (l83, x'.player, x'.window, x'.sure.Frame, x'.sure.Seed, x'.sure.Players, x'.sure.Shots, x'.sure.Score, x'.own, q'.first_, q'.l, q'.last, r'.size, r'.places)) ∧
      EI x' q' r' 0 (n + kk) L ∧ x'.own = [] ∧ x'.sure = S
  | 0, j, x, q, r, h, _, _, _, _ => by omega
  | m + 1, j, x, q, r, h, hj, H, ho, hS => by
    rw [m_hindcastlaw26_RollbackComes_L105.eq_2, hb]
    by_cases hlt : j < n + kk
    · obtain ⟨o, os, hos⟩ : ∃ o os, x.own = o :: os := by
        cases hx : x.own with
        | nil => rw [hx] at ho; simp at ho; omega
        | cons o os => exact ⟨o, os, rfl⟩
      have hfr := H.fr
      have hlen : os.length = n + kk - (j + 1) := by rw [hos] at ho; simp at ho; omega
      obtain ⟨r4, e4, H4⟩ := confirm_yes (F := F) H hF (f := ((j + 1 : Nat) : Int)) hos (by omega) (by omega)
      obtain ⟨x', q', r', e5, R1, R2, R3⟩ := comes4 (S := S) hF hb hn4 hL m (j + 1) _ _ r4 (by omega) (by omega) H4 hlen (by
        rw [← hS]
        show shw (shw x.sure x.player L j x.own 1) x.player L (j + 1) os os.length = _
        rw [hos, List.length_cons]
        exact shw_shift.symm)
      have e4' : m_rollback_Engine_Confirm F (T_rollback_Engine.mk x.player x.window (T_api_State.mk x.sure.Frame x.sure.Seed x.sure.Players x.sure.Shots x.sure.Score) x.own) (T_queue_Queue.mk q.first_ q.l q.last) (T_ring_Ring.mk r.size r.places) ((j + 1 : Nat) : Int) = _ := e4
      refine ⟨x', q', r', ?_, R1, R2, R3⟩
      rw [decide_eq_true (show (j : Int) < ((n + kk : Nat) : Int) by omega), cond_true]
      simp only [Option.bind_some, i64_s (show j ≤ 1000000 by omega), u64_n (show j + 1 ≤ 1000000 by omega), e4', Bool.not_true, cond_false]
      exact e5
    · obtain rfl : j = n + kk := by omega
      have hnil : x.own = [] := List.eq_nil_of_length_eq_zero (by omega)
      rw [decide_eq_false (show ¬ ((n + kk : Nat) : Int) < ((n + kk : Nat) : Int) by omega), cond_false]
      refine ⟨x, q, r, rfl, H, hnil, ?_⟩
      rw [← hS, hnil]
      rfl
end

theorem comes_pure (hF : 1010 ≤ F) (hwk : m_hindcastlaw26_works F = some true) {g : T_hindcastlaw26_Game} {p1 p2 : Int} (hs : 0 ≤ g.Seed ∧ g.Seed ≤ 18446744073709551615) (hp : 0 ≤ g.Player ∧ g.Player ≤ 255) (hw : 0 ≤ g.Window ∧ g.Window ≤ 255) (h1 : 0 ≤ p1 ∧ p1 ≤ 255) (h2 : 0 ≤ p2 ∧ p2 ≤ 255) : m_hindcastlaw26_RollbackComes F g p1 p2 = some true := by
  unfold m_hindcastlaw26_RollbackComes
  by_cases hg : ((decide ((100 : Int) < (g.Mine.length : Int))) || (decide ((100 : Int) < (g.Theirs.length : Int)))) = true
  · rw [r_or, hg]
    simp only [Option.bind_some, cond_true, hwk]
  · rw [Bool.not_eq_true] at hg
    rw [r_or, hg]
    have tp : Int.tmod g.Player 2 = 0 ∨ Int.tmod g.Player 2 = 1 := by
      rw [Int.tmod_eq_emod_of_nonneg hp.1]; omega
    have tw : Int.tmod g.Window 12 = g.Window % 12 := Int.tmod_eq_emod_of_nonneg hw.1
    have t1 : Int.tmod p1 40 = p1 % 40 := Int.tmod_eq_emod_of_nonneg h1.1
    have w1 : IntKind.wrap .i64 (Int.tmod g.Window 12) = g.Window % 12 := by rw [tw]; exact wr_i64 ⟨by omega, by omega⟩
    have w2 : IntKind.wrap .i64 (1 + g.Window % 12) = 1 + g.Window % 12 := wr_i64 ⟨by omega, by omega⟩
    have w3 : IntKind.wrap .i64 p2 = p2 := wr_i64 ⟨by omega, by omega⟩
    have w4 : IntKind.wrap .i64 (Int.tmod p1 40) = ((p1 % 40).toNat : Int) := by rw [t1, wr_i64 ⟨by omega, by omega⟩]; omega
    obtain ⟨r0, e0, H0⟩ := new_ei (F := F) hF (w := 1 + g.Window % 12) (start_ok hs) (start_good g.Seed) (by show (0 : Int) ≤ _; omega) tp (by omega)
    obtain ⟨x1, q1, r1, L1, e1, H1, hL1, ho1, hw1⟩ := comes1 (F := F) (g := g) hF w4 (by omega) F 0 _ _ r0 [] (by omega) (by omega) H0 rfl rfl
    have hw1' : x1.window = 1 + g.Window % 12 := hw1
    obtain ⟨kk, hkk⟩ : ∃ kk : Nat, (kk : Int) = 1 + p2 % (1 + g.Window % 12) := ⟨(1 + p2 % (1 + g.Window % 12)).toNat, by
      have := Int.emod_nonneg p2 (show (1 + g.Window % 12) ≠ 0 by omega)
      omega⟩
    have hklt := Int.emod_lt_of_pos p2 (show 0 < 1 + g.Window % 12 by omega)
    have hkge := Int.emod_nonneg p2 (show (1 + g.Window % 12) ≠ 0 by omega)
    have hrem : remI p2 (1 + g.Window % 12) = some (p2 % (1 + g.Window % 12)) := by
      unfold remI
      rw [if_neg (by omega), Int.tmod_eq_emod_of_nonneg h2.1]
    have w5 : IntKind.wrap .i64 ((1 : Int) + p2 % (1 + g.Window % 12)) = (kk : Int) := by rw [wr_i64 ⟨by omega, by omega⟩]; omega
    have w6 : IntKind.wrap .i64 (IntKind.wrap .i64 (Int.tmod p1 40) + IntKind.wrap .i64 ((1 : Int) + p2 % (1 + g.Window % 12))) = (((p1 % 40).toNat + kk : Nat) : Int) := by
      rw [w4, w5, wr_i64 ⟨by omega, by omega⟩]; omega
    obtain ⟨x2, r2, e2, H2, hl2⟩ := comes2 (F := F) (g := g) (l29 := false) hF w6 (by omega) (w := 1 + g.Window % 12) (by omega) F (p1 % 40).toNat x1 r1 (by omega) (by omega) (by omega) H1 (by rw [ho1]; simp) hw1'
    obtain ⟨q3, r3, L3, e3, H3, hl3⟩ := comes3 (F := F) (g := g) (l60 := false) (x := x2) hF w6 (by omega) (by omega) F (p1 % 40).toNat q1 r2 L1 (by omega) (by omega) (by omega) H2 hL1
    obtain ⟨r4, e4, H4⟩ := shown_of (F := F) H3 hF
    obtain ⟨x5, q5, r5, e5, H5, ho5, hs5⟩ := comes4 (F := F) (l83 := false) hF w6 (by omega) hl3 F (p1 % 40).toNat x2 q3 r4 (by omega) (by omega) H4 (by omega) rfl
    have e6 := State_of (F := F) H5 q5 r5
    obtain ⟨r7, e7, H7⟩ := shown_of (F := F) H5 hF
    have hsh : shw x5.sure x5.player L3 ((p1 % 40).toNat + kk) x5.own x5.own.length = x5.sure := by rw [ho5]; rfl
    rw [hsh] at e7
    have hgood := H5.sg
    have hsame : m_state_Same F x5.sure x5.sure = some true := by
      have := stGood_leI hgood
      rw [same_of (by omega) (by omega), stE_refl]
    have e8 := T_of (F := F) H7 q5 r7
    rw [← hs5] at e4
    have e4' : m_rollback_Engine_Shown F (T_rollback_Engine.mk x2.player x2.window (T_api_State.mk x2.sure.Frame x2.sure.Seed x2.sure.Players x2.sure.Shots x2.sure.Score) x2.own) (T_queue_Queue.mk q3.first_ q3.l q3.last) (T_ring_Ring.mk r3.size r3.places) = _ := e4
    have e6' : m_rollback_Engine_State F (T_rollback_Engine.mk x5.player x5.window (T_api_State.mk x5.sure.Frame x5.sure.Seed x5.sure.Players x5.sure.Shots x5.sure.Score) x5.own) (T_queue_Queue.mk q5.first_ q5.l q5.last) (T_ring_Ring.mk r5.size r5.places) = _ := e6
    have e7' : m_rollback_Engine_Shown F (T_rollback_Engine.mk x5.player x5.window (T_api_State.mk x5.sure.Frame x5.sure.Seed x5.sure.Players x5.sure.Shots x5.sure.Score) x5.own) (T_queue_Queue.mk q5.first_ q5.l q5.last) (T_ring_Ring.mk r5.size r5.places) = _ := e7
    have e8' : m_rollback_Engine_T F (T_rollback_Engine.mk x5.player x5.window (T_api_State.mk x5.sure.Frame x5.sure.Seed x5.sure.Players x5.sure.Shots x5.sure.Score) x5.own) (T_queue_Queue.mk q5.first_ q5.l q5.last) (T_ring_Ring.mk r7.size r7.places) = _ := e8
    have e9 : m_rollback_Engine_C F (T_rollback_Engine.mk x5.player x5.window (T_api_State.mk x5.sure.Frame x5.sure.Seed x5.sure.Players x5.sure.Shots x5.sure.Score) x5.own) (T_queue_Queue.mk q5.first_ q5.l q5.last) (T_ring_Ring.mk r7.size r7.places) = some x5.sure.Frame := rfl
    have hz : (x5.sure.Frame == x5.sure.Frame + (x5.own.length : Int)) = true := by rw [ho5]; simp
    rw [show ((0 : Nat) : Int) = 0 from rfl] at e1
    simp only [Option.bind_some, cond_false, start_is (F := F) (show 3 ≤ F by omega), w1, w2, e0, poE, e1, orE_l, w3, hrem]
    rw [w4]
    simp only [e2, Option.bind_some, orE_l, e3, e4', e5, e6', hsame, cond_true, e7', e9, e8', hz, hwk]

theorem comes_works : m_hindcastlaw26_works 1010 = some true := by kernel_rfl

theorem inputs_rd {W : World} {m : Nat} {v : Value} (h : Rdw TT W (m + 3) 23 [v]) : ∃ (a : Option Addr) (n cap : Nat) (xs : List Int), v = .slice a n cap ∧ n = xs.length ∧ n ≤ cap ∧ Rds W [] [] a (flat (e1 .u8) xs) := by
  obtain ⟨a, n, cap, xs, hv, hn, hc, _, hr, _⟩ := rd_list (enc := e1 .u8) (ok := fun _ => True) h rfl rfl (e1_len _) (fun es hes h => by
    match es, hes with
    | [c], _ =>
      obtain ⟨x, rfl, wx⟩ := rd_cell h rfl
      exact ⟨x, rfl, trivial⟩)
  exact ⟨a, n, cap, xs, hv, hn, hc, hr⟩

theorem game_rd {W : World} {m : Nat} {cs : List Value} (h : Rdw TT W (m + 4) 25 cs) :
    ∃ (g : T_hindcastlaw26_Game) (a0 : Option Addr) (n0 c0 : Nat) (a1 : Option Addr) (n1 c1 : Nat), cs = [.int .u64 g.Seed, .int .u8 g.Player, .int .u8 g.Window, .slice a0 n0 c0, .slice a1 n1 c1] ∧ (n0 = g.Mine.length ∧ n0 ≤ c0 ∧ Rds W [] [] a0 (flat (e1 .u8) g.Mine)) ∧ (n1 = g.Theirs.length ∧ n1 ≤ c1 ∧ Rds W [] [] a1 (flat (e1 .u8) g.Theirs)) ∧
      (0 ≤ g.Seed ∧ g.Seed ≤ 18446744073709551615) ∧ (0 ≤ g.Player ∧ g.Player ≤ 255) ∧ (0 ≤ g.Window ∧ g.Window ≤ 255) := by
  obtain ⟨hl, hf⟩ := rd_struct h rfl
  match cs, hl with
  | [v0, v1, v2, v3, v4], _ =>
    obtain ⟨s, rfl, ws⟩ := rd_cell (hf (22, 0) (by simp)) rfl
    obtain ⟨p, rfl, wp⟩ := rd_cell (hf (5, 1) (by simp)) rfl
    obtain ⟨w, rfl, ww⟩ := rd_cell (hf (5, 2) (by simp)) rfl
    have h3 : Rdw TT W (m + 3) 23 [v3] := hf (23, 3) (by simp)
    have h4 : Rdw TT W (m + 3) 23 [v4] := hf (23, 4) (by simp)
    obtain ⟨a0, n0, c0, xs, rfl, hn0, hc0, hr0⟩ := inputs_rd h3
    obtain ⟨a1, n1, c1, ys, rfl, hn1, hc1, hr1⟩ := inputs_rd h4
    exact ⟨⟨s, p, w, xs, ys⟩, a0, n0, c0, a1, n1, c1, rfl, ⟨hn0, hc0, hr0⟩, ⟨hn1, hc1, hr1⟩, wf_u64 ws, wf_u8 wp, wf_u8 ww⟩

theorem rollbackComes_walk (W : World) (hG : Rds W [] [] (some ⟨0, 0, none⟩) (flat (fun _ : Unit => gl_state_playerBounds) [()]) ∧ Rds W [] [] (some ⟨1, 0, none⟩) (flat (fun _ : Unit => gl_state_shotBounds) [()]))
    (c0 : List Value) (v1 v2 : Value) (R0 : Rdw TT W 8 25 c0) (R1 : Rdw TT W 8 5 [v1]) (R2 : Rdw TT W 8 5 [v2]) :
    Calls Tryd.prog 3 #[.agg c0.toArray, v1, v2] W fun e w' => e = .returned (.bool true) ∧ Inv W [] w' [] := by
  obtain ⟨g, a0, n0, c0, a1, n1, c1, rfl, ⟨hn0, hc0, hr0⟩, ⟨hn1, hc1, hr1⟩, hs, hp, hw⟩ := game_rd R0
  obtain ⟨p1, rfl, w1⟩ := rd_cell R1 rfl
  obtain ⟨p2, rfl, w2⟩ := rd_cell R2 rfl
  exact (k_hindcastlaw26_RollbackComes hn0 hc0 hn1 hc1 (comes_pure (F := 1010) (by omega) comes_works hs hp hw (wf_u8 w1) (wf_u8 w2))).run W ⟨hr0, hr1, hG⟩

noncomputable def rollbackComes_world (os : Os) : World :=
  { World.holding Tryd.prog os ⟨#[], #[], []⟩ with heap := ((World.holding Tryd.prog os ⟨#[], #[], []⟩).heap.modify 0 fun | .cells _ t frozen => .cells gl_state_playerBounds.toArray t frozen | o => o).modify 1 fun | .cells _ t frozen => .cells gl_state_shotBounds.toArray t frozen | o => o }
theorem rollbackComes_laid_met (os : Os) : laidMet Tryd.prog Rows.rollbackComesRow.laid ((rollbackComes_world os).forCall (fun _ _ => 0) ⟨#[], #[.agg #[(.int .u64 0), (.int .u8 0), (.int .u8 0), (.slice none 0 0), (.slice none 0 0)], .int .u8 0, .int .u8 0], []⟩).memory := laidMet_of_run' 8 (by kernel_rfl) (by kernel_rfl)
theorem rollbackComes_reads (os : Os) {H : Type} (enc : TypeId × Value → H) : ∃ places, DataW.whole enc Tryd.prog ((rollbackComes_world os).forCall (fun _ _ => 0) ⟨#[], #[.agg #[(.int .u64 0), (.int .u8 0), (.int .u8 0), (.slice none 0 0), (.slice none 0 0)], .int .u8 0, .int .u8 0], []⟩).memory Tryd.f3.params.toList Rows.rollbackComesSpec.vars false (#[.agg #[(.int .u64 0), (.int .u8 0), (.int .u8 0), (.slice none 0 0), (.slice none 0 0)], .int .u8 0, .int .u8 0] : Array Value).toList 8 = some ([.agg [.lit (.int .u64 0), .lit (.int .u8 0), .lit (.int .u8 0), .nil, .nil], .lit (.int .u8 0), .lit (.int .u8 0)], [], places) := ⟨[], by kernel_rfl⟩
set_option maxRecDepth 100000 in
theorem rollbackComes_lifted (os : Os) (started : os.Started) (H : Type) (enc : TypeId × Value → H) (F : Stop.Interp) :
    ReturnsInHanded {} Tryd.checked os 3 .any ((OpenSpec.ofChange Rows.rollbackComesSpec).preRow enc Tryd.prog Tryd.f3 Rows.rollbackComesRow.domain false Rows.rollbackComesRow.laid) (((OpenSpec.ofChange Rows.rollbackComesSpec).at F).post enc Tryd.prog Tryd.f3 false true false false) := by
  obtain ⟨places, hx⟩ := rollbackComes_reads os enc
  refine returnsInHanded_of_row (C := Tryd.checked) (s := OpenSpec.ofChange Rows.rollbackComesSpec) (by kernel_rfl) started (by kernel_rfl) Tryd.func3
    (witness_row_at (enc := enc) (C := Tryd.checked) false (rollbackComes_world os) #[.agg #[(.int .u64 0), (.int .u8 0), (.int .u8 0), (.slice none 0 0), (.slice none 0 0)], .int .u8 0, .int .u8 0] rfl (by kernel_rfl) (by kernel_rfl) (by kernel_rfl)
      (OpenSpec.preRow_of_cond 8 hx (by kernel_rfl) (fun k hk => by cases hk) (by kernel_rfl) (rollbackComes_laid_met os))) ?_
  intro W base args ds gs before hval0 hW hcnd hk0 hsz0 hL _ _
  have hG := laid_cells hL
  have hval : ∀ (j : Nat) t v, Tryd.f3.params[j]? = some t → args[j]? = some v → Value.okWide Tryd.prog W .any base t v := hval0
  have hW' := hW
  obtain ⟨p, q, hA0, hV, rfl, hfz, hnd⟩ := hW
  have hA : DataW.TrodAll enc Tryd.prog W 0 (fun _ => true) true Tryd.f3.params.toList args.toList ds p := hA0
  obtain ⟨rfl, rfl⟩ := trodVars_none hV
  have hsz : ∀ x ∈ DataW.weightsEach Tryd.prog Tryd.f3.params.toList ds, x ≤ maxB := by
    have h1 : (DataW.weightsEach Tryd.prog (Tryd.f3.params.toList ++ []) (ds ++ [])).all (· ≤ reachBytes) = true := hsz0
    simp only [List.append_nil] at h1
    intro x hx; have h2 := List.all_eq_true.1 h1 x hx; simp only [decide_eq_true_eq] at h2; exact h2
  rw [Tryd.params3] at hA hval hsz
  have hR := rdw_all tt_ok ctt_ok (closed_of tt_closed) (fun _ => rfl) 8 hA hsz
  have hback := fun (W2 : World) (hb : Below W.heap.size W W2) => trodAll_below (by kernel_rfl : laidOutB Tryd.prog = true) hb (by kernel_rfl) hA
  obtain ⟨v0, vs0, d0, ds0, p0, q0, hargs, rfl, rfl, h0, r0⟩ := trodAll_cons hA
  obtain ⟨v1, vs1, d1, ds1, p1, q1, rfl, rfl, rfl, h1, r1⟩ := trodAll_cons r0
  obtain ⟨v2, vs2, d2, ds2, p2, q2, rfl, rfl, rfl, h2, r2⟩ := trodAll_cons r1
  obtain ⟨rfl, rfl, rfl⟩ := trodAll_nil r2
  obtain rfl : args = #[v0, v1, v2] := by cases args; simp_all
  have R0 := hR 0 25 v0 rfl rfl
  have e0 := val_agg tt_ok (t := 25) rfl rfl (hval 0 25 v0 rfl rfl)
  generalize v0.cells.toList = c0 at e0 R0
  subst e0
  have R1 := hR 1 5 v1 rfl rfl
  have e1 := val_one tt_ok (t := 5) rfl (by intro h; cases h) rfl (hval 1 5 v1 rfl rfl)
  rw [e1] at R1
  have R2 := hR 2 5 v2 rfl rfl
  have e2 := val_one tt_ok (t := 5) rfl (by intro h; cases h) rfl (hval 2 5 v2 rfl rfl)
  rw [e2] at R2
  clear hval hval0 hsz hsz0 hR hA0
  refine (rollbackComes_walk W hG c0 v1 v2 R0 R1 R2).mono fun e W2 ⟨he, hI⟩ => ?_
  subst he
  exact ⟨_, rfl, _, _, _, [], _, [], hW', trodAll_mk1 (shut_bool Tryd.underlying4 _), hback _ (below_of_inv hI), rfl, (below_of_inv hI).frame _, fun h => by cases h⟩

theorem rollbackComes_said : Rows.RollbackComesSaid :=
  OpenClaim.holds_of_cond 3 Tryd.f3 rfl rfl rfl rfl rfl rfl rfl ⟨rfl, rfl, rfl, rfl, rfl⟩ rfl rfl rfl rfl rfl (by kernel_rfl) Tryd.func3 (by kernel_rfl)
    (of_decide_eq_true (by kernel_rfl)) (by unfold Func.isWrapper; first | (rw [if_pos (by decide +kernel)]; kernel_rfl) | (rw [if_neg (by decide +kernel)]; exact ⟨rfl, rfl⟩))
    (fun os started H enc _ F => by rw [OpenClaim.pre_eq_preRow]; exact rollbackComes_lifted os started H enc F)

theorem rollbackComes_plain (f : FuncId) (fn : Func) (hf : Tryd.pinned.checked.prog.funcNamed "hindcast/hindcastlaw26.RollbackComes" = some f) (hfn : Tryd.pinned.checked.prog.funcs[f]? = some fn) :
    false = Tryd.pinned.checked.prog.looks [] ∧ ∀ (j : Nat) t, fn.params[j]? = some t → Tryd.pinned.checked.prog.wantsStandIn t = false := by
  obtain rfl : f = 3 := Option.some.inj ((show Tryd.prog.funcNamed "hindcast/hindcastlaw26.RollbackComes" = some 3 by kernel_rfl).symm.trans hf) |>.symm
  obtain rfl : fn = Tryd.f3 := (Option.some.inj (Tryd.func3.symm.trans hfn)).symm
  refine ⟨by kernel_rfl, fun j t ht => ?_⟩
  rw [Tryd.params3] at ht
  have hm : t ∈ [25, 5, 5] := by simpa using Array.mem_of_getElem? ht
  have hall : ([25, 5, 5].all fun u => !Tryd.prog.wantsStandIn u) = true := by kernel_rfl
  exact (show Tryd.prog.wantsStandIn t = false by simpa using List.all_eq_true.1 hall t hm)

theorem rollbackComes_holds : Rows.RollbackComesCardSaid :=
  Claim7.holds_tied_plain_at .later [] _ _ _ _ rollbackComes_said (fun _ h => by cases h) (by kernel_rfl) (fun _ h => by cases h) rollbackComes_row_tie rfl ⟨rfl, rfl⟩ (by kernel_rfl) rfl rollbackComes_plain (by kernel_rfl)

end Go.Proofs.YtkekgagekgadmaaDoor
