/-
  Chapter 28: the law BackfillTakes: what is made of pairs, and of inputs, that are told, and what is planned, is as the document says.
-/
import Derived.Test.YtkdbpenjkcjimaaGreatDoorRollRef
import Derived.Test.YtkdbpenjkcjimaaGreatDoorFoldRef
import Derived.Test.YtkdbpenjkcjimaaGreatDoorStateRow
import Derived.Test.YtkdbpenjkcjimaaGreatDoorCards
import Derived.Test.YtkdbpenjkcjimaaGreatDoorTie
import Derived.Test.YtkdbpenjkcjimaaGreatDoorLaid
import Derived.Test.YtkdbpenjkcjimaaGreatDoorWalk
import Derived.Deep.DeepHandedRow
namespace Go.Proofs.YtkdbpenjkcjimaaGreatDoor
open Go.Proofs.YtkdbpenjkcjimaaGreatDoor.Eng Go.RowKit Go.ChangeShapes Go.WideShapes Go.ChangeAt
set_option linter.unusedSimpArgs false
set_option linter.unusedVariables false
set_option maxHeartbeats 2000000
set_option maxRecDepth 20000

variable {F : Nat}

def atg (l : List Int) (f : Nat) : Int := if f < l.length then Int.tmod (l.getD f 0) 64 else 0
theorem at_of (l : List Int) (f : Nat) : m_hindcastlaw28_at F l (f : Int) = some (atg l f) := by
  unfold m_hindcastlaw28_at atg
  by_cases h : f < l.length
  · rw [if_pos h, decide_eq_true (show (f : Int) < (l.length : Int) by omega), cond_true, getI_nat, List.getElem?_eq_getElem h, List.getD_eq_getElem?_getD, List.getElem?_eq_getElem h]
    rfl
  · rw [if_neg h, decide_eq_false (show ¬ (f : Int) < (l.length : Int) by omega), cond_false]
theorem atg_lt (l : List Int) (f : Nat) : atg l f < 64 := by
  unfold atg
  split
  · exact Int.tmod_lt_of_pos _ (by omega)
  · omega
theorem atg_nn {l : List Int} (h : ∀ o ∈ l, 0 ≤ o) (f : Nat) : 0 ≤ atg l f := by
  unfold atg
  split
  · rename_i hj
    rw [List.getD_eq_getElem?_getD, List.getElem?_eq_getElem hj]
    exact Int.tmod_nonneg _ (h _ (List.getElem_mem hj))
  · exact Int.le_refl 0

theorem u64_n {j : Nat} (h : j ≤ 1000000) : IntKind.wrap .u64 (j : Int) = (j : Int) := wr_u64 ⟨by omega, by omega⟩

/-! ### The game -/
def plg (g : T_hindcastlaw28_Setup) : Int := Int.tmod g.Player 2
def tp (g : T_hindcastlaw28_Setup) (f : Nat) : Int × Int := pr (plg g) (atg g.Mine f) (atg g.Theirs f)
section
variable {g : T_hindcastlaw28_Setup}
theorem gpair_of (hp : plg g = 0 ∨ plg g = 1) (f : Nat) : m_hindcastlaw28_Setup_pair F g (f : Int) = some (tp g f) := by
  unfold m_hindcastlaw28_Setup_pair tp
  have hq : Int.tmod g.Player 2 = plg g := rfl
  rw [hq]
  simp only [at_of, Option.bind_some]
  rcases hp with h | h <;> rw [h] <;> rfl
theorem tp_lt (f : Nat) : (tp g f).1 < 64 ∧ (tp g f).2 < 64 := pr_lt (atg_lt _ _) (atg_lt _ _)
end

/-! ### Are both alike? -/
section
variable {x : T_rollback_Engine} {q : T_queue_Queue} {r : T_ring_Ring} {k : Nat} {L : List Int}
theorem alike_of (H : EI x q r 0 k L) (N : NN x L) (hF : 1010 ≤ F) : ∃ r', m_hindcastlaw28_alike F x q r (refE x) (rOf 0 k L) = some (r', true) ∧ EI x q r' 0 k L := by
  have how := H.ow; have hw := H.w
  obtain ⟨v, is, n1, n2⟩ := next_both (F := F) H
  obtain ⟨r', e1, H'⟩ := shown_of (F := F) H hF
  have e2 := rshown_of (F := F) H N hF
  have hgood : (shw x.sure x.player L k x.own x.own.length).Shots.length ≤ 1000 := by
    have := stGood_leI (H.fs.f _ (Nat.le_refl _)).2.2
    omega
  have hc : ((refE x).Sure.Frame) = x.sure.Frame := rfl
  have ho : (refE x).Own = x.own := rfl
  unfold m_hindcastlaw28_alike
  rw [n1, n2]
  simp only [Option.bind_some, beq_self_eq_true, Bool.and_self, cond_true, C_of, hc, T_of (F := F) H q r, rT_of (F := F) H, Known_of (F := F) H r, known_r H.qo, Own_of (F := F) (x := x) q r (by omega), ho, isame_self (F := F) (l := x.own) hF (by omega), e1, e2, ssame_self (F := F) hF hgood]
  exact ⟨r', rfl, H'⟩
end

/-! ### Setting up -/
section
variable {g : T_hindcastlaw28_Setup}
theorem takes_a (hF : 1010 ≤ F) (hp : plg g = 0 ∨ plg g = 1) (hm : ∀ o ∈ g.Mine, 0 ≤ o) (ht : ∀ o ∈ g.Theirs, 0 ≤ o) {n : Nat} (hn : IntKind.wrap .i64 (Int.tmod g.Sure 60) = (n : Int)) (hn6 : n ≤ 60) :
    ∀ (m j : Nat) (x : T_rollback_Engine) (q : T_queue_Queue) (r : T_ring_Ring) (h : T_fold_History) (k : Nat) (L : List Int) (P : List (Int × Int)), n - j < m → j ≤ n → EI x q r 0 k L → NN x L → HI h 0 256 P → L.length ≤ j → P.length ≤ j →
    ∃ x' q' r' h' k' L' P', m_hindcastlaw28_BackfillTakes_L100012 F g m (j : Int) x.player x.window x.sure.Frame x.sure.Seed x.sure.Players x.sure.Shots x.sure.Score x.own q.first_ q.l q.last r.size r.places h =
        some (x'.player, x'.window, x'.sure.Frame, x'.sure.Seed, x'.sure.Players, x'.sure.Shots, x'.sure.Score, x'.own, q'.first_, q'.l, q'.last, r'.size, r'.places, h') ∧
      m_hindcastlaw28_BackfillTakes_L200012 F g m (j : Int) (refE x).Player (refE x).Window (refE x).Sure.Frame (refE x).Sure.Seed (refE x).Sure.Players (refE x).Sure.Shots (refE x).Sure.Score (refE x).Own (rOf 0 k L).Begin (rOf 0 k L).First (rOf 0 k L).L 0 256 P =
        some ((refE x').Player, (refE x').Window, (refE x').Sure.Frame, (refE x').Sure.Seed, (refE x').Sure.Players, (refE x').Sure.Shots, (refE x').Sure.Score, (refE x').Own, (rOf 0 k' L').Begin, (rOf 0 k' L').First, (rOf 0 k' L').L, 0, 256, P') ∧
      EI x' q' r' 0 k' L' ∧ NN x' L' ∧ HI h' 0 256 P' ∧ L'.length ≤ n ∧ P'.length ≤ n
  | 0, j, x, q, r, h, k, L, P, hm', _, _, _, _, _, _ => by omega
  | m + 1, j, x, q, r, h, k, L, P, hm', hj, H, N, HH, hL, hP => by
    rw [m_hindcastlaw28_BackfillTakes_L100012.eq_2, m_hindcastlaw28_BackfillTakes_L200012.eq_2, hn]
    by_cases hlt : j < n
    · have hxe : T_rollback_Engine.mk x.player x.window (T_api_State.mk x.sure.Frame x.sure.Seed x.sure.Players x.sure.Shots x.sure.Score) x.own = x := rfl
      have hqe : T_queue_Queue.mk q.first_ q.l q.last = q := rfl
      have hre : T_ring_Ring.mk r.size r.places = r := rfl
      have hye : T_hindcastref26_Engine.mk (refE x).Player (refE x).Window (T_api_State.mk (refE x).Sure.Frame (refE x).Sure.Seed (refE x).Sure.Players (refE x).Sure.Shots (refE x).Sure.Score) (refE x).Own = refE x := rfl
      have hpe : T_hindcastref24_Queue.mk (rOf 0 k L).Begin (rOf 0 k L).First (rOf 0 k L).L = rOf 0 k L := rfl
      obtain ⟨x1, ea, l1, l2, H1, N1⟩ := local_both (F := F) H N (atg_nn hm j)
      obtain ⟨q2, r2, L2, eb, m1, m2, H2, N2, hL2⟩ := remote_both (F := F) H1 N1 hF (by omega) (f := (j : Int)) ⟨by omega, by omega⟩ (atg_nn ht j)
      obtain ⟨x3, q3, r3, k3, v, is, c1, c2, H3, N3⟩ := confirm_both (F := F) H2 N2 hF ((j + 1 : Nat) : Int)
      have hl3 := HH.f0
      obtain ⟨h4, a1, HH4⟩ := add_good (F := F) HH (tp_lt (g := g) j) (by omega)
      have a2 := radd_good (F := F) (mo := 256) (tp_lt (g := g) j) HH.f0 (by omega) (by omega)
      have u1 := u64_n (show j ≤ 1000000 by omega)
      have u2 := u64_n (show j + 1 ≤ 1000000 by omega)
      obtain ⟨x', q', r', h', k', L', P', b1, b2, R⟩ := takes_a hF hp hm ht hn hn6 m (j + 1) x3 q3 r3 h4 k3 L2 (P ++ [tp g j]) (by omega) (by omega) H3 N3 HH4 (by omega) (by simp; omega)
      refine ⟨x', q', r', h', k', L', P', ?_, ?_, R⟩
      · rw [decide_eq_true (show (j : Int) < (n : Int) by omega), cond_true, hxe, hqe, hre]
        simp only [at_of, Option.bind_some, l1, u1, m1, i64_s (show j ≤ 1000000 by omega), u2, c1, gpair_of hp, a1]
        exact b1
      · rw [decide_eq_true (show (j : Int) < (n : Int) by omega), cond_true, hye, hpe]
        simp only [at_of, Option.bind_some, l2, u1, m2, i64_s (show j ≤ 1000000 by omega), u2, c2, gpair_of hp, a2]
        exact b2
    · rw [decide_eq_false (show ¬ (j : Int) < (n : Int) by omega), cond_false]
      exact ⟨x, q, r, h, k, L, P, rfl, rfl, H, N, HH, by omega, by omega⟩

theorem takes_b (hm : ∀ o ∈ g.Mine, 0 ≤ o) {n : Nat} (hn : IntKind.wrap .i64 ((IntKind.wrap .i64 (Int.tmod g.Sure 60)) + (IntKind.wrap .i64 (Int.tmod g.Ahead 13))) = (n : Int)) (hn6 : n ≤ 100) {q : T_queue_Queue} {r : T_ring_Ring} {k : Nat} {L : List Int} :
    ∀ (m j : Nat) (x : T_rollback_Engine), n - j < m → EI x q r 0 k L → NN x L →
    ∃ x', m_hindcastlaw28_BackfillTakes_L100033 F g q.first_ q.l q.last r.size r.places m (j : Int) x.player x.window x.sure.Frame x.sure.Seed x.sure.Players x.sure.Shots x.sure.Score x.own =
        some (x'.player, x'.window, x'.sure.Frame, x'.sure.Seed, x'.sure.Players, x'.sure.Shots, x'.sure.Score, x'.own) ∧
      m_hindcastlaw28_BackfillTakes_L200033 F g (rOf 0 k L).Begin (rOf 0 k L).First (rOf 0 k L).L m (j : Int) (refE x).Player (refE x).Window (refE x).Sure.Frame (refE x).Sure.Seed (refE x).Sure.Players (refE x).Sure.Shots (refE x).Sure.Score (refE x).Own =
        some ((refE x').Player, (refE x').Window, (refE x').Sure.Frame, (refE x').Sure.Seed, (refE x').Sure.Players, (refE x').Sure.Shots, (refE x').Sure.Score, (refE x').Own) ∧
      EI x' q r 0 k L ∧ NN x' L
  | 0, j, x, hm', _, _ => by omega
  | m + 1, j, x, hm', H, N => by
    rw [m_hindcastlaw28_BackfillTakes_L100033.eq_2, m_hindcastlaw28_BackfillTakes_L200033.eq_2, hn]
    by_cases hlt : j < n
    · have hxe : T_rollback_Engine.mk x.player x.window (T_api_State.mk x.sure.Frame x.sure.Seed x.sure.Players x.sure.Shots x.sure.Score) x.own = x := rfl
      have hqe : T_queue_Queue.mk q.first_ q.l q.last = q := rfl
      have hre : T_ring_Ring.mk r.size r.places = r := rfl
      have hye : T_hindcastref26_Engine.mk (refE x).Player (refE x).Window (T_api_State.mk (refE x).Sure.Frame (refE x).Sure.Seed (refE x).Sure.Players (refE x).Sure.Shots (refE x).Sure.Score) (refE x).Own = refE x := rfl
      have hpe : T_hindcastref24_Queue.mk (rOf 0 k L).Begin (rOf 0 k L).First (rOf 0 k L).L = rOf 0 k L := rfl
      obtain ⟨x1, ea, l1, l2, H1, N1⟩ := local_both (F := F) H N (atg_nn hm j)
      obtain ⟨x', b1, b2, R⟩ := takes_b hm hn hn6 m (j + 1) x1 (by omega) H1 N1
      refine ⟨x', ?_, ?_, R⟩
      · rw [decide_eq_true (show (j : Int) < (n : Int) by omega), cond_true, hxe, hqe, hre]
        simp only [at_of, Option.bind_some, l1, i64_s (show j ≤ 1000000 by omega)]
        exact b1
      · rw [decide_eq_true (show (j : Int) < (n : Int) by omega), cond_true, hye, hpe]
        simp only [at_of, Option.bind_some, l2, i64_s (show j ≤ 1000000 by omega)]
        exact b2
    · rw [decide_eq_false (show ¬ (j : Int) < (n : Int) by omega), cond_false]
      exact ⟨x, rfl, rfl, H, N⟩

theorem takes_c (hF : 1010 ≤ F) (ht : ∀ o ∈ g.Theirs, 0 ≤ o) {n : Nat} (hn : IntKind.wrap .i64 ((IntKind.wrap .i64 (Int.tmod g.Sure 60)) + (IntKind.wrap .i64 (Int.tmod g.Told 13))) = (n : Int)) (hn6 : n ≤ 100) {x : T_rollback_Engine} {k : Nat} :
    ∀ (m j : Nat) (q : T_queue_Queue) (r : T_ring_Ring) (L : List Int), n - j < m → EI x q r 0 k L → NN x L → L.length + (n - j) ≤ 200 →
    ∃ q' r' L', m_hindcastlaw28_BackfillTakes_L100048 F g x.player x.window x.sure.Frame x.sure.Seed x.sure.Players x.sure.Shots x.sure.Score x.own m (j : Int) q.first_ q.l q.last r.size r.places =
        some (q'.first_, q'.l, q'.last, r'.size, r'.places) ∧
      m_hindcastlaw28_BackfillTakes_L200048 F g (refE x).Player (refE x).Window (refE x).Sure.Frame (refE x).Sure.Seed (refE x).Sure.Players (refE x).Sure.Shots (refE x).Sure.Score (refE x).Own m (j : Int) (rOf 0 k L).Begin (rOf 0 k L).First (rOf 0 k L).L =
        some ((rOf 0 k L').Begin, (rOf 0 k L').First, (rOf 0 k L').L) ∧
      EI x q' r' 0 k L' ∧ NN x L' ∧ L'.length ≤ 200
  | 0, j, q, r, L, hm', _, _, _ => by omega
  | m + 1, j, q, r, L, hm', H, N, hL => by
    rw [m_hindcastlaw28_BackfillTakes_L100048.eq_2, m_hindcastlaw28_BackfillTakes_L200048.eq_2, hn]
    by_cases hlt : j < n
    · have hxe : T_rollback_Engine.mk x.player x.window (T_api_State.mk x.sure.Frame x.sure.Seed x.sure.Players x.sure.Shots x.sure.Score) x.own = x := rfl
      have hqe : T_queue_Queue.mk q.first_ q.l q.last = q := rfl
      have hre : T_ring_Ring.mk r.size r.places = r := rfl
      have hye : T_hindcastref26_Engine.mk (refE x).Player (refE x).Window (T_api_State.mk (refE x).Sure.Frame (refE x).Sure.Seed (refE x).Sure.Players (refE x).Sure.Shots (refE x).Sure.Score) (refE x).Own = refE x := rfl
      have hpe : T_hindcastref24_Queue.mk (rOf 0 k L).Begin (rOf 0 k L).First (rOf 0 k L).L = rOf 0 k L := rfl
      obtain ⟨q2, r2, L2, eb, m1, m2, H2, N2, hL2⟩ := remote_both (F := F) H N hF (by omega) (f := (j : Int)) ⟨by omega, by omega⟩ (atg_nn ht j)
      obtain ⟨q', r', L', b1, b2, R⟩ := takes_c hF ht hn hn6 m (j + 1) q2 r2 L2 (by omega) H2 N2 (by omega)
      have u1 := u64_n (show j ≤ 1000000 by omega)
      refine ⟨q', r', L', ?_, ?_, R⟩
      · rw [decide_eq_true (show (j : Int) < (n : Int) by omega), cond_true, hxe, hqe, hre]
        simp only [at_of, Option.bind_some, u1, m1, i64_s (show j ≤ 1000000 by omega)]
        exact b1
      · rw [decide_eq_true (show (j : Int) < (n : Int) by omega), cond_true, hye, hpe]
        simp only [at_of, Option.bind_some, u1, m2, i64_s (show j ≤ 1000000 by omega)]
        exact b2
    · rw [decide_eq_false (show ¬ (j : Int) < (n : Int) by omega), cond_false]
      exact ⟨q, r, L, rfl, rfl, H, N, by omega⟩
end

/-! ### What is planned -/
section
variable {h : T_fold_History} {fr : Int} {P : List (Int × Int)}
theorem rplan_loop (f0 : 0 ≤ fr ∧ fr + (P.length : Int) ≤ 18446744073709551615) {p : Int} (hp : 0 ≤ p ∧ p ≤ 18446744073709551615) {c : Nat} (hc : c ≤ 32) (hin : c ≠ 0 → fr ≤ p ∧ p + (c : Int) ≤ fr + (P.length : Int)) (hout : c < 32 → ¬ (fr ≤ p + (c : Int) ∧ p + (c : Int) < fr + (P.length : Int))) :
    ∀ (m i : Nat), 40 - i < m → i ≤ c → m_hindcastref28_Plan_L6 F ⟨fr, 256, P⟩ p m (i : Int) = some (c : Int)
  | 0, i, hm, _ => by omega
  | m + 1, i, hm, hi => by
    rw [m_hindcastref28_Plan_L6.eq_2]
    have u1 := u64_n (show i ≤ 1000000 by omega)
    by_cases h32 : i < 32
    · have u2 : IntKind.wrap .u64 (p + (i : Int)) = p + (i : Int) := wr_u64 ⟨by omega, by
        by_cases h0 : i = 0
        · omega
        · have := hin (by omega); omega⟩
      have hpi : 0 ≤ p + (i : Int) ∧ p + (i : Int) ≤ 18446744073709551615 := ⟨by omega, by
        by_cases h0 : i = 0
        · omega
        · have := hin (by omega); omega⟩
      rw [decide_eq_true (show (i : Int) < 32 by omega), cond_true, u1, u2, rat_of f0 hpi]
      by_cases hic : i < c
      · have := hin (by omega)
        have hv : (hatv fr P (p + (i : Int))).2 = true := by unfold hatv; rw [if_pos ⟨by omega, by omega⟩]
        simp only [Option.bind_some, hv, Bool.not_true, cond_false, i64_s (show i ≤ 1000000 by omega)]
        exact rplan_loop f0 hp hc hin hout m (i + 1) (by omega) (by omega)
      · obtain rfl : i = c := by omega
        have hv : (hatv fr P (p + (i : Int))).2 = false := by rw [hatv_out (hout h32)]
        simp only [Option.bind_some, hv, Bool.not_false, cond_true]
    · rw [decide_eq_false (show ¬ (i : Int) < 32 by omega), cond_false, show i = c by omega]

theorem plan_both (H : HI h fr 256 P) (hF : 1010 ≤ F) {p : Int} (hp : 0 ≤ p ∧ p ≤ 18446744073709551615) : ∃ v, m_backfill_Plan F h p = some v ∧ m_hindcastref28_Plan F ⟨fr, 256, P⟩ p = some v := by
  have f0 := H.f0
  obtain ⟨c, hcl, hc, hin, hout⟩ : ∃ c : Nat, (slv fr P p 32).length = c ∧ c ≤ 32 ∧ (c ≠ 0 → fr ≤ p ∧ p + (c : Int) ≤ fr + (P.length : Int)) ∧ (c < 32 → ¬ (fr ≤ p + (c : Int) ∧ p + (c : Int) < fr + (P.length : Int))) := by
    refine ⟨_, rfl, ?_⟩
    unfold slv
    by_cases h1 : fr ≤ p
    · rw [if_pos h1]
      simp only [List.length_take, List.length_drop]
      have : (32 : Int).toNat = 32 := rfl
      rw [this]
      omega
    · rw [if_neg h1]
      simp
      omega
  have e1 := slice_of (F := F) H hp (n := 32) (by omega) (by omega)
  have e2 := rplan_loop (F := F) f0 hp hc hin hout F 0 (by omega) (Nat.zero_le _)
  have e2' : m_hindcastref28_Plan_L6 F ⟨fr, 256, P⟩ p F 0 = _ := e2
  unfold m_backfill_Plan m_hindcastref28_Plan
  simp only [e1, e2', Option.bind_some, hcl]
  cases ((c : Int) == 0) <;> exact ⟨_, rfl, rfl⟩
end

/-! ### What is told -/
section
variable {x : T_rollback_Engine} {k : Nat} {h : T_fold_History} {fr : Int} {P : List (Int × Int)} {pl : Int}
theorem b_and (c : Bool) (b : Bool) : cond c (some b) (some false) = some (c && b) := by cases c <;> rfl

theorem pairs_step (hF : 1010 ≤ F) (HH : HI h fr 256 P) (hpl : pl = 0 ∨ pl = 1) {l : List (Int × Int)} {f0 : Int} {i : Nat} {pp : Int × Int} (hpp : l[i]? = some pp) (h1 : 0 ≤ pp.1) (h2 : 0 ≤ pp.2) (hi : i ≤ 1000) (hf0 : 0 ≤ f0) (hfi : f0 + (i : Int) ≤ 18446744073709551615)
    {q : T_queue_Queue} {r : T_ring_Ring} {L : List Int} (H : EI x q r 0 k L) (N : NN x L) (hL : L.length < 1000) (m : Nat) :
    ∃ q1 r1 L1 e, m_backfill_Pairs_1 F (f0 + (i : Int)) pp () h () x q r pl = some (q1, r1, e) ∧
      m_hindcastref28_Pairs_L22 F (refE x) ⟨fr, 256, P⟩ pl f0 l (m + 1) (i : Int) (rOf 0 k L).Begin (rOf 0 k L).First (rOf 0 k L).L =
        (if e = 0 then m_hindcastref28_Pairs_L22 F (refE x) ⟨fr, 256, P⟩ pl f0 l m ((i + 1 : Nat) : Int) (rOf 0 k L1).Begin (rOf 0 k L1).First (rOf 0 k L1).L else some (.inr (rOf 0 k L1, (i : Int), e))) ∧
      EI x q1 r1 0 k L1 ∧ NN x L1 ∧ L1.length ≤ L.length + 1 := by
  have how := H.ow; have hw := H.w; have hfr := H.fr; have hkl := H.hk; have hll := H.hl
  have hlt := (List.getElem?_eq_some_iff.1 hpp).1
  have u1 := u64_n (show i ≤ 1000000 by omega)
  have u2 : IntKind.wrap .u64 (f0 + (i : Int)) = f0 + (i : Int) := wr_u64 ⟨by omega, by omega⟩
  have hpe : T_hindcastref24_Queue.mk (rOf 0 k L).Begin (rOf 0 k L).First (rOf 0 k L).L = rOf 0 k L := rfl
  have hsu : (refE x).Sure.Frame = x.sure.Frame := rfl
  have how' : (refE x).Own = x.own := rfl
  have g1 : getI l (i : Int) = some pp := by rw [getI_nat, hpp]
  rw [m_hindcastref28_Pairs_L22.eq_2, decide_eq_true (show (i : Int) < (l.length : Int) by omega), cond_true, u1, u2]
  unfold m_backfill_Pairs_1
  generalize hf : f0 + (i : Int) = f at *
  have hf1 : 0 ≤ f := by omega
  simp only [hat_of (F := F) HH hf1, Option.bind_some, C_of, hsu, how', T_of (F := F) H q r, rT_of (F := F) H, rat_of (F := F) (mo := 256) HH.f0 (show 0 ≤ f ∧ f ≤ 18446744073709551615 from ⟨hf1, hfi⟩), g1, b_and, i64_s (show i ≤ 1000000 by omega), hpe]
  by_cases c1 : f < x.sure.Frame
  · rw [decide_eq_true c1]
    simp only [cond_true]
    cases hb : ((hatv fr P f).2 && !((hatv fr P f).1.1 == pp.1 && (hatv fr P f).1.2 == pp.2)) with
    | true => exact ⟨q, r, L, 14, rfl, rfl, H, N, by omega⟩
    | false => exact ⟨q, r, L, 0, rfl, rfl, H, N, by omega⟩
  · rw [decide_eq_false c1]
    simp only [cond_false]
    by_cases c2 : x.sure.Frame + (x.own.length : Int) ≤ f
    · rw [decide_eq_true c2]
      simp only [cond_true]
      exact ⟨q, r, L, 11, rfl, rfl, H, N, by omega⟩
    · rw [decide_eq_false c2]
      have hix : (f - x.sure.Frame).toNat < x.own.length := by omega
      have hx : x.own[(f - x.sure.Frame).toNat]? = some (x.own[(f - x.sure.Frame).toNat]'hix) := List.getElem?_eq_getElem _
      have hso := H.so.1
      have w1 : IntKind.wrap .u64 (f - x.sure.Frame) = f - x.sure.Frame := wr_u64 ⟨by omega, by omega⟩
      have g2 : getI x.own (f - x.sure.Frame) = some (x.own[(f - x.sure.Frame).toNat]'hix) := getI_of (by omega) hx
      generalize x.own[(f - x.sure.Frame).toNat]'hix = o at g2
      have hO := Own_of (F := F) (x := x) q r (by omega)
      have z10 : IntKind.wrap .u8 ((1 : Int) - 0) = 1 := by decide
      have z11 : IntKind.wrap .u8 ((1 : Int) - 1) = 0 := by decide
      have b10 : ((1 : Int) == 0) = false := rfl
      simp only [cond_false, w1, hO, g2, Option.bind_some]
      rcases hpl with rfl | rfl
      · simp only [beq_self_eq_true, cond_true, z10, b10, cond_false]
        cases hne : (o != pp.1) with
        | true => exact ⟨q, r, L, 14, rfl, rfl, H, N, by omega⟩
        | false =>
          obtain ⟨q1, r1, L1, e, m1, m2, H1, N1, hL1⟩ := remote_both (F := F) H N hF hL (f := f) ⟨hf1, hfi⟩ h2
          refine ⟨q1, r1, L1, e, ?_, ?_, H1, N1, hL1⟩
          · simp only [cond_false, m1, Option.bind_some]
          · simp only [cond_false, m2, Option.bind_some]
            by_cases he : e = 0
            · rw [if_pos he, he]; rfl
            · rw [if_neg he, show (e != 0) = true by simpa using he]; rfl
      · simp only [b10, cond_false, beq_self_eq_true, cond_true, z11]
        cases hne : (o != pp.2) with
        | true => exact ⟨q, r, L, 14, rfl, rfl, H, N, by omega⟩
        | false =>
          obtain ⟨q1, r1, L1, e, m1, m2, H1, N1, hL1⟩ := remote_both (F := F) H N hF hL (f := f) ⟨hf1, hfi⟩ h1
          refine ⟨q1, r1, L1, e, ?_, ?_, H1, N1, hL1⟩
          · simp only [cond_false, m1, Option.bind_some]
          · simp only [cond_false, m2, Option.bind_some]
            by_cases he : e = 0
            · rw [if_pos he, he]; rfl
            · rw [if_neg he, show (e != 0) = true by simpa using he]; rfl

theorem pairs_loop (hF : 1010 ≤ F) (HH : HI h fr 256 P) (hpl : pl = 0 ∨ pl = 1) {l : List (Int × Int)} {f0 : Int} (hl : l.length ≤ 100) (hpp : ∀ p ∈ l, 0 ≤ p.1 ∧ 0 ≤ p.2) (hf0 : 0 ≤ f0) (hfl : f0 + (l.length : Int) ≤ 18446744073709551615) :
    ∀ (m i : Nat) (q : T_queue_Queue) (r : T_ring_Ring) (L : List Int), l.length - i < m → i ≤ l.length → EI x q r 0 k L → NN x L → L.length + (l.length - i) ≤ 900 →
    ∃ q1 r1 L1 n e, (m_backfill_Pairs_L100021 F x h pl f0 l m (i : Int) (i : Int) q.first_ q.l q.last r.size r.places = (if e = 0 then some (.inl (n, q1.first_, q1.l, q1.last, r1.size, r1.places)) else some (.inr (n, e, q1.first_, q1.l, q1.last, r1.size, r1.places)))) ∧
      m_hindcastref28_Pairs_L22 F (refE x) ⟨fr, 256, P⟩ pl f0 l m (i : Int) (rOf 0 k L).Begin (rOf 0 k L).First (rOf 0 k L).L = (if e = 0 then some (.inl (0, 0, (rOf 0 k L1).Begin, (rOf 0 k L1).First, (rOf 0 k L1).L)) else some (.inr (rOf 0 k L1, n, e))) ∧
      (e = 0 → n = (l.length : Int)) ∧ EI x q1 r1 0 k L1 ∧ NN x L1 ∧ L1.length ≤ L.length + (l.length - i)
  | 0, i, q, r, L, hm, _, _, _, _ => by omega
  | m + 1, i, q, r, L, hm, hi, H, N, hL => by
    rw [m_backfill_Pairs_L100021.eq_2]
    by_cases hlt : i < l.length
    · have hx : l[i]? = some l[i] := List.getElem?_eq_getElem hlt
      obtain ⟨a1, a2⟩ := hpp _ (List.getElem_mem hlt)
      obtain ⟨q1, r1, L1, e, s1, s2, H1, N1, hL1⟩ := pairs_step (F := F) hF HH hpl hx a1 a2 (by omega) hf0 (by omega) H N (by omega) m
      have u1 := u64_n (show i ≤ 1000000 by omega)
      have u2 : IntKind.wrap .u64 (f0 + (i : Int)) = f0 + (i : Int) := wr_u64 ⟨by omega, by omega⟩
      have hqe : T_queue_Queue.mk q.first_ q.l q.last = q := rfl
      have hre : T_ring_Ring.mk r.size r.places = r := rfl
      rw [s2, decide_eq_true (show (i : Int) < (l.length : Int) by omega), cond_true]
      simp only [getI_nat, hx, Option.bind_some, u1, u2, hqe, hre, s1, i64_s (show i ≤ 1000000 by omega)]
      by_cases he : e = 0
      · obtain ⟨q2, r2, L2, n, e2, t1, t2, t3, H2, N2, hL2⟩ := pairs_loop hF HH hpl hl hpp hf0 hfl m (i + 1) q1 r1 L1 (by omega) (by omega) H1 N1 (by omega)
        refine ⟨q2, r2, L2, n, e2, ?_, ?_, t3, H2, N2, by omega⟩
        · rw [he]
          simp only [bne_self_eq_false, cond_false]
          exact t1
        · rw [if_pos he]
          exact t2
      · refine ⟨q1, r1, L1, (i : Int), e, ?_, ?_, fun h => absurd h he, H1, N1, by omega⟩
        · rw [if_neg he, show (e != 0) = true by simpa using he, cond_true]
        · rw [if_neg he, if_neg he]
    · rw [m_hindcastref28_Pairs_L22.eq_2, decide_eq_false (show ¬ (i : Int) < (l.length : Int) by omega), cond_false, cond_false]
      exact ⟨q, r, L, (i : Int), 0, rfl, rfl, fun _ => by omega, H, N, by omega⟩

theorem bad_of {p f0 : Int} {n : Nat} (hf : 0 ≤ f0 ∧ f0 ≤ 18446744073709551615) (hn : n ≤ 100) : m_hindcastref28_bad F p f0 (n : Int) = some (if 1 < p ∨ 18446744073709551615 < f0 + (n : Int) then 2 else 0) := by
  unfold m_hindcastref28_bad
  have u1 := u64_n (show n ≤ 1000000 by omega)
  rw [u1]
  by_cases h1 : 1 < p
  · rw [decide_eq_true h1, if_pos (.inl h1)]; rfl
  · rw [decide_eq_false h1]
    by_cases h2 : 18446744073709551615 < f0 + (n : Int)
    · have : IntKind.wrap .u64 (f0 + (n : Int)) < f0 := by
        simp only [IntKind.wrap, IntKind.bits, IntKind.signed]
        simp
        omega
      rw [if_pos (.inr h2)]
      simp only [cond_false, Option.bind_some, decide_eq_true this, cond_true]
    · rw [wr_u64 (x := f0 + (n : Int)) ⟨by omega, by omega⟩, if_neg (by omega)]
      simp only [cond_false, Option.bind_some, decide_eq_false (show ¬ f0 + (n : Int) < f0 by omega)]
theorem pbad_of {p f0 : Int} {n : Nat} (hf : 0 ≤ f0 ∧ f0 ≤ 18446744073709551615) (hn : n ≤ 100) : (cond (decide ((1 : Int) < p)) (some true) (some (decide ((IntKind.wrap .u64 ((18446744073709551615 : Int) - f0)) < (IntKind.wrap .u64 (n : Int)))))) = some (decide (1 < p ∨ 18446744073709551615 < f0 + (n : Int))) := by
  rw [u64_n (show n ≤ 1000000 by omega), wr_u64 (x := 18446744073709551615 - f0) ⟨by omega, by omega⟩]
  by_cases h1 : 1 < p
  · rw [decide_eq_true h1, decide_eq_true (show 1 < p ∨ 18446744073709551615 < f0 + (n : Int) from .inl h1)]; rfl
  · rw [decide_eq_false h1, cond_false]
    congr 1
    by_cases h2 : 18446744073709551615 < f0 + (n : Int)
    · rw [decide_eq_true (show 18446744073709551615 - f0 < (n : Int) by omega), decide_eq_true (show 1 < p ∨ 18446744073709551615 < f0 + (n : Int) from .inr h2)]
    · rw [decide_eq_false (show ¬ 18446744073709551615 - f0 < (n : Int) by omega), decide_eq_false (show ¬ (1 < p ∨ 18446744073709551615 < f0 + (n : Int)) by omega)]

theorem pairs_both (hF : 1010 ≤ F) (HH : HI h fr 256 P) (hp0 : 0 ≤ pl) {l : List (Int × Int)} {f0 : Int} (hl : l.length ≤ 100) (hpp : ∀ p ∈ l, 0 ≤ p.1 ∧ 0 ≤ p.2) (hf : 0 ≤ f0 ∧ f0 ≤ 18446744073709551615)
    {q : T_queue_Queue} {r : T_ring_Ring} {L : List Int} (H : EI x q r 0 k L) (N : NN x L) (hL : L.length ≤ 800) :
    ∃ q1 r1 L1 n e, m_backfill_Pairs F x q r h pl f0 l = some (q1, r1, n, e) ∧ m_hindcastref28_Pairs F (refE x) (rOf 0 k L) ⟨fr, 256, P⟩ pl f0 l = some (rOf 0 k L1, n, e) ∧ EI x q1 r1 0 k L1 ∧ NN x L1 ∧ L1.length ≤ L.length + 100 := by
  unfold m_backfill_Pairs m_hindcastref28_Pairs
  rw [pbad_of hf hl, bad_of hf hl]
  by_cases hb : 1 < pl ∨ 18446744073709551615 < f0 + (l.length : Int)
  · rw [decide_eq_true hb, if_pos hb]
    exact ⟨q, r, L, 0, 2, rfl, rfl, H, N, by omega⟩
  · rw [decide_eq_false hb, if_neg hb]
    obtain ⟨q1, r1, L1, n, e, t1, t2, t3, H1, N1, hL1⟩ := pairs_loop (F := F) hF HH (show pl = 0 ∨ pl = 1 by omega) hl hpp hf.1 (by omega) F 0 q r L (by omega) (by omega) H N (by omega)
    have t1' : m_backfill_Pairs_L100021 F x h pl f0 l F 0 0 q.first_ q.l q.last r.size r.places = _ := t1
    have t2' : m_hindcastref28_Pairs_L22 F (refE x) ⟨fr, 256, P⟩ pl f0 l F 0 (rOf 0 k L).Begin (rOf 0 k L).First (rOf 0 k L).L = _ := t2
    refine ⟨q1, r1, L1, n, e, ?_, ?_, H1, N1, by omega⟩
    · simp only [Option.bind_some, cond_false, t1']
      by_cases he : e = 0
      · rw [if_pos he, he]; rfl
      · rw [if_neg he]; rfl
    · simp only [Option.bind_some, bne_self_eq_false, cond_false, t2']
      by_cases he : e = 0
      · rw [if_pos he, he, t3 he]; rfl
      · rw [if_neg he]; rfl

theorem inputs_step (hF : 1010 ≤ F) (HH : HI h fr 256 P) (hpl : pl = 0 ∨ pl = 1) {l : List Int} {f0 : Int} {i : Nat} {pp : Int} (hpp : l[i]? = some pp) (h1 : 0 ≤ pp) (hi : i ≤ 1000) (hf0 : 0 ≤ f0) (hfi : f0 + (i : Int) ≤ 18446744073709551615)
    {q : T_queue_Queue} {r : T_ring_Ring} {L : List Int} (H : EI x q r 0 k L) (N : NN x L) (hL : L.length < 1000) (m : Nat) :
    ∃ q1 r1 L1 e, m_backfill_Inputs_1 F (f0 + (i : Int)) pp () x q r () h pl = some (q1, r1, e) ∧
      m_hindcastref28_Inputs_L22 F (refE x) ⟨fr, 256, P⟩ pl f0 l (m + 1) (i : Int) (rOf 0 k L).Begin (rOf 0 k L).First (rOf 0 k L).L =
        (if e = 0 then m_hindcastref28_Inputs_L22 F (refE x) ⟨fr, 256, P⟩ pl f0 l m ((i + 1 : Nat) : Int) (rOf 0 k L1).Begin (rOf 0 k L1).First (rOf 0 k L1).L else some (.inr (rOf 0 k L1, (i : Int), e))) ∧
      EI x q1 r1 0 k L1 ∧ NN x L1 ∧ L1.length ≤ L.length + 1 := by
  have hlt := (List.getElem?_eq_some_iff.1 hpp).1
  have u1 := u64_n (show i ≤ 1000000 by omega)
  have u2 : IntKind.wrap .u64 (f0 + (i : Int)) = f0 + (i : Int) := wr_u64 ⟨by omega, by omega⟩
  have hpe : T_hindcastref24_Queue.mk (rOf 0 k L).Begin (rOf 0 k L).First (rOf 0 k L).L = rOf 0 k L := rfl
  have hsu : (refE x).Sure.Frame = x.sure.Frame := rfl
  have g1 : getI l (i : Int) = some pp := by rw [getI_nat, hpp]
  rw [m_hindcastref28_Inputs_L22.eq_2, decide_eq_true (show (i : Int) < (l.length : Int) by omega), cond_true, u1, u2]
  unfold m_backfill_Inputs_1
  generalize hf : f0 + (i : Int) = f at *
  have hf1 : 0 ≤ f := by omega
  have z10 : IntKind.wrap .u8 ((1 : Int) - 0) = 1 := by decide
  have z11 : IntKind.wrap .u8 ((1 : Int) - 1) = 0 := by decide
  have b10 : ((1 : Int) == 0) = false := rfl
  simp only [hat_of (F := F) HH hf1, Option.bind_some, C_of, hsu, rat_of (F := F) (mo := 256) HH.f0 (show 0 ≤ f ∧ f ≤ 18446744073709551615 from ⟨hf1, hfi⟩), g1, i64_s (show i ≤ 1000000 by omega), hpe]
  by_cases c1 : f < x.sure.Frame
  · rw [decide_eq_true c1, decide_eq_false (show ¬ x.sure.Frame ≤ f by omega)]
    simp only [cond_true, cond_false]
    rcases hpl with rfl | rfl
    · simp only [z10, b10, cond_false, beq_self_eq_true, cond_true, b_and, Option.bind_some]
      cases hb : ((hatv fr P f).2 && (hatv fr P f).1.2 != pp) with
      | true => exact ⟨q, r, L, 14, rfl, rfl, H, N, by omega⟩
      | false => exact ⟨q, r, L, 0, rfl, rfl, H, N, by omega⟩
    · simp only [z11, beq_self_eq_true, cond_true, b_and, Option.bind_some]
      cases hb : ((hatv fr P f).2 && (hatv fr P f).1.1 != pp) with
      | true => exact ⟨q, r, L, 14, rfl, rfl, H, N, by omega⟩
      | false => exact ⟨q, r, L, 0, rfl, rfl, H, N, by omega⟩
  · rw [decide_eq_false c1, decide_eq_true (show x.sure.Frame ≤ f by omega)]
    obtain ⟨q1, r1, L1, e, m1, m2, H1, N1, hL1⟩ := remote_both (F := F) H N hF hL (f := f) ⟨hf1, hfi⟩ h1
    refine ⟨q1, r1, L1, e, ?_, ?_, H1, N1, hL1⟩
    · simp only [cond_true, m1, Option.bind_some]
    · simp only [cond_false, m2, Option.bind_some]
      by_cases he : e = 0
      · rw [if_pos he, he]; rfl
      · rw [if_neg he, show (e != 0) = true by simpa using he]; rfl

theorem inputs_loop (hF : 1010 ≤ F) (HH : HI h fr 256 P) (hpl : pl = 0 ∨ pl = 1) {l : List Int} {f0 : Int} (hl : l.length ≤ 100) (hpp : ∀ p ∈ l, 0 ≤ p) (hf0 : 0 ≤ f0) (hfl : f0 + (l.length : Int) ≤ 18446744073709551615) :
    ∀ (m i : Nat) (q : T_queue_Queue) (r : T_ring_Ring) (L : List Int), l.length - i < m → i ≤ l.length → EI x q r 0 k L → NN x L → L.length + (l.length - i) ≤ 900 →
    ∃ q1 r1 L1 n e, (m_backfill_Inputs_L100021 F x h pl f0 l m (i : Int) (i : Int) q.first_ q.l q.last r.size r.places = (if e = 0 then some (.inl (n, q1.first_, q1.l, q1.last, r1.size, r1.places)) else some (.inr (n, e, q1.first_, q1.l, q1.last, r1.size, r1.places)))) ∧
      m_hindcastref28_Inputs_L22 F (refE x) ⟨fr, 256, P⟩ pl f0 l m (i : Int) (rOf 0 k L).Begin (rOf 0 k L).First (rOf 0 k L).L = (if e = 0 then some (.inl (0, 0, (rOf 0 k L1).Begin, (rOf 0 k L1).First, (rOf 0 k L1).L)) else some (.inr (rOf 0 k L1, n, e))) ∧
      (e = 0 → n = (l.length : Int)) ∧ EI x q1 r1 0 k L1 ∧ NN x L1 ∧ L1.length ≤ L.length + (l.length - i)
  | 0, i, q, r, L, hm, _, _, _, _ => by omega
  | m + 1, i, q, r, L, hm, hi, H, N, hL => by
    rw [m_backfill_Inputs_L100021.eq_2]
    by_cases hlt : i < l.length
    · have hx : l[i]? = some l[i] := List.getElem?_eq_getElem hlt
      have a1 := hpp _ (List.getElem_mem hlt)
      obtain ⟨q1, r1, L1, e, s1, s2, H1, N1, hL1⟩ := inputs_step (F := F) hF HH hpl hx a1 (by omega) hf0 (by omega) H N (by omega) m
      have u1 := u64_n (show i ≤ 1000000 by omega)
      have u2 : IntKind.wrap .u64 (f0 + (i : Int)) = f0 + (i : Int) := wr_u64 ⟨by omega, by omega⟩
      have hqe : T_queue_Queue.mk q.first_ q.l q.last = q := rfl
      have hre : T_ring_Ring.mk r.size r.places = r := rfl
      rw [s2, decide_eq_true (show (i : Int) < (l.length : Int) by omega), cond_true]
      simp only [getI_nat, hx, Option.bind_some, u1, u2, hqe, hre, s1, i64_s (show i ≤ 1000000 by omega)]
      by_cases he : e = 0
      · obtain ⟨q2, r2, L2, n, e2, t1, t2, t3, H2, N2, hL2⟩ := inputs_loop hF HH hpl hl hpp hf0 hfl m (i + 1) q1 r1 L1 (by omega) (by omega) H1 N1 (by omega)
        refine ⟨q2, r2, L2, n, e2, ?_, ?_, t3, H2, N2, by omega⟩
        · rw [he]
          simp only [bne_self_eq_false, cond_false]
          exact t1
        · rw [if_pos he]
          exact t2
      · refine ⟨q1, r1, L1, (i : Int), e, ?_, ?_, fun h => absurd h he, H1, N1, by omega⟩
        · rw [if_neg he, show (e != 0) = true by simpa using he, cond_true]
        · rw [if_neg he, if_neg he]
    · rw [m_hindcastref28_Inputs_L22.eq_2, decide_eq_false (show ¬ (i : Int) < (l.length : Int) by omega), cond_false, cond_false]
      exact ⟨q, r, L, (i : Int), 0, rfl, rfl, fun _ => by omega, H, N, by omega⟩

theorem inputs_both (hF : 1010 ≤ F) (HH : HI h fr 256 P) (hp0 : 0 ≤ pl) {l : List Int} {f0 : Int} (hl : l.length ≤ 100) (hpp : ∀ p ∈ l, 0 ≤ p) (hf : 0 ≤ f0 ∧ f0 ≤ 18446744073709551615)
    {q : T_queue_Queue} {r : T_ring_Ring} {L : List Int} (H : EI x q r 0 k L) (N : NN x L) (hL : L.length ≤ 800) :
    ∃ q1 r1 L1 n e, m_backfill_Inputs F x q r h pl f0 l = some (q1, r1, n, e) ∧ m_hindcastref28_Inputs F (refE x) (rOf 0 k L) ⟨fr, 256, P⟩ pl f0 l = some (rOf 0 k L1, n, e) ∧ EI x q1 r1 0 k L1 ∧ NN x L1 := by
  unfold m_backfill_Inputs m_hindcastref28_Inputs
  rw [pbad_of hf hl, bad_of hf hl]
  by_cases hb : 1 < pl ∨ 18446744073709551615 < f0 + (l.length : Int)
  · rw [decide_eq_true hb, if_pos hb]
    exact ⟨q, r, L, 0, 2, rfl, rfl, H, N⟩
  · rw [decide_eq_false hb, if_neg hb]
    obtain ⟨q1, r1, L1, n, e, t1, t2, t3, H1, N1, hL1⟩ := inputs_loop (F := F) hF HH (show pl = 0 ∨ pl = 1 by omega) hl hpp hf.1 (by omega) F 0 q r L (by omega) (by omega) H N (by omega)
    have t1' : m_backfill_Inputs_L100021 F x h pl f0 l F 0 0 q.first_ q.l q.last r.size r.places = _ := t1
    have t2' : m_hindcastref28_Inputs_L22 F (refE x) ⟨fr, 256, P⟩ pl f0 l F 0 (rOf 0 k L).Begin (rOf 0 k L).First (rOf 0 k L).L = _ := t2
    refine ⟨q1, r1, L1, n, e, ?_, ?_, H1, N1⟩
    · simp only [Option.bind_some, cond_false, t1']
      by_cases he : e = 0
      · rw [if_pos he, he]; rfl
      · rw [if_neg he]; rfl
    · simp only [Option.bind_some, bne_self_eq_false, cond_false, t2']
      by_cases he : e = 0
      · rw [if_pos he, he, t3 he]; rfl
      · rw [if_neg he]; rfl
end

theorem md_of {a : Int} (h : 0 ≤ a) {m : Nat} (hm : 0 < m ∧ m ≤ 1000) : ∃ n : Nat, n < m ∧ Int.tmod a (m : Int) = (n : Int) ∧ IntKind.wrap .i64 (Int.tmod a (m : Int)) = (n : Int) := by
  obtain ⟨b, rfl⟩ := Int.eq_ofNat_of_zero_le h
  have hlt := Nat.mod_lt b hm.1
  have e : Int.tmod (b : Int) (m : Int) = ((b % m : Nat) : Int) := rfl
  refine ⟨b % m, hlt, e, ?_⟩
  rw [e, wr_i64 ⟨by omega, by omega⟩]

theorem rnew_of (hF : 1010 ≤ F) {s : T_api_State} {pl w : Int} (so : StOk s) (sg : stGood s = true) (h0 : s.Frame = 0) (hp : pl = 0 ∨ pl = 1) (hw : 1 ≤ w ∧ w ≤ 12) : m_hindcastref26_New F s pl w = some (some (refE ⟨pl, w, s, []⟩, rOf 0 0 [])) := by
  have hsl := stGood_leI sg
  have hrck := rcheck_of (F := F) (s := s) (by omega) (by omega)
  unfold m_hindcastref26_New m_hindcastref24_New
  rw [hrck, if_pos sg]
  have hq : T_hindcastref24_Queue.mk s.Frame s.Frame [] = rOf 0 0 [] := by rw [h0]; rfl
  simp only [Option.bind_some, show ((0 : Int) != 0) = false from rfl, cond_false, decide_eq_false (show ¬ (9223372036854775808 : Int) < s.Frame by omega), decide_eq_false (show ¬ (1 : Int) < pl by omega), decide_eq_false (show ¬ w < 1 by omega), decide_eq_false (show ¬ (12 : Int) < w by omega), rcopy_of (F := F) (s := s) (by omega), hq]
  rfl
theorem rstart_is (d : Int) : m_hindcastref08_Start F d = some (startS d) := by
  unfold m_hindcastref08_Start
  rfl

structure SetOk (g : T_hindcastlaw28_Setup) : Prop where
  s : 0 ≤ g.Seed ∧ g.Seed ≤ 18446744073709551615
  p : 0 ≤ g.Player
  w : 0 ≤ g.Window
  u : 0 ≤ g.Sure
  a : 0 ≤ g.Ahead
  t : 0 ≤ g.Told
  m : ∀ o ∈ g.Mine, 0 ≤ o
  h : ∀ o ∈ g.Theirs, 0 ≤ o
structure TolOk (t : T_hindcastlaw28_Told) : Prop where
  p : 0 ≤ t.Player
  f : 0 ≤ t.First ∧ t.First ≤ 18446744073709551615
  l : ∀ p ∈ t.Pairs, 0 ≤ p.1 ∧ 0 ≤ p.2
  i : ∀ o ∈ t.Inputs, 0 ≤ o

theorem takes_pure (hF : 1010 ≤ F) (hwk : m_hindcastlaw28_works F = some true) {g : T_hindcastlaw28_Setup} {t : T_hindcastlaw28_Told} {p2 : Int} (S : SetOk g) (T : TolOk t) (hp2 : 0 ≤ p2 ∧ p2 ≤ 18446744073709551615) : m_hindcastlaw28_BackfillTakes F g t p2 = some true := by
  unfold m_hindcastlaw28_BackfillTakes
  simp only [r_or, Option.bind_some]
  by_cases hg : ((((decide ((100 : Int) < (g.Mine.length : Int))) || (decide ((100 : Int) < (g.Theirs.length : Int)))) || (decide ((100 : Int) < (t.Pairs.length : Int)))) || (decide ((100 : Int) < (t.Inputs.length : Int)))) = true
  · rw [hg]
    simp only [cond_true, hwk, Option.bind_some]
  · rw [Bool.not_eq_true] at hg
    rw [hg]
    simp only [Bool.or_eq_false_iff, decide_eq_false_iff_not] at hg
    obtain ⟨⟨⟨b1, b2⟩, b3⟩, b4⟩ := hg
    obtain ⟨n, n1, _, n3⟩ := md_of (m := 60) S.u ⟨by omega, by omega⟩
    obtain ⟨na, na1, _, na3⟩ := md_of (m := 13) S.a ⟨by omega, by omega⟩
    obtain ⟨nt, nt1, _, nt3⟩ := md_of (m := 13) S.t ⟨by omega, by omega⟩
    obtain ⟨nw, nw1, _, nw3⟩ := md_of (m := 12) S.w ⟨by omega, by omega⟩
    obtain ⟨np, np1, np2, _⟩ := md_of (m := 2) S.p ⟨by omega, by omega⟩
    have hn : IntKind.wrap .i64 (Int.tmod g.Sure 60) = (n : Int) := n3
    have hna : IntKind.wrap .i64 (Int.tmod g.Ahead 13) = (na : Int) := na3
    have hnt : IntKind.wrap .i64 (Int.tmod g.Told 13) = (nt : Int) := nt3
    have hnw : IntKind.wrap .i64 (Int.tmod g.Window 12) = (nw : Int) := nw3
    have hnp : Int.tmod g.Player 2 = (np : Int) := np2
    have hA : IntKind.wrap .i64 ((IntKind.wrap .i64 (Int.tmod g.Sure 60)) + (IntKind.wrap .i64 (Int.tmod g.Ahead 13))) = ((n + na : Nat) : Int) := by rw [hn, hna, wr_i64 ⟨by omega, by omega⟩]; omega
    have hB : IntKind.wrap .i64 ((IntKind.wrap .i64 (Int.tmod g.Sure 60)) + (IntKind.wrap .i64 (Int.tmod g.Told 13))) = ((n + nt : Nat) : Int) := by rw [hn, hnt, wr_i64 ⟨by omega, by omega⟩]; omega
    have hW : IntKind.wrap .i64 ((1 : Int) + (IntKind.wrap .i64 (Int.tmod g.Window 12))) = ((nw + 1 : Nat) : Int) := by rw [hnw, wr_i64 ⟨by omega, by omega⟩]; omega
    have hp : plg g = 0 ∨ plg g = 1 := by
      unfold plg
      rw [hnp]
      omega
    obtain ⟨r0, e0, H0⟩ := new_ei (F := F) hF (start_ok S.s) (start_good g.Seed) (show (startS g.Seed).Frame ≤ 9223372036854775808 by show (0 : Int) ≤ _; omega) hp (show 1 ≤ ((nw + 1 : Nat) : Int) ∧ ((nw + 1 : Nat) : Int) ≤ 12 by omega)
    have f0 := rnew_of (F := F) hF (start_ok S.s) (start_good g.Seed) rfl hp (show 1 ≤ ((nw + 1 : Nat) : Int) ∧ ((nw + 1 : Nat) : Int) ≤ 12 by omega)
    have e0' : m_rollback_New F (startS g.Seed) (plg g) ((nw + 1 : Nat) : Int) = some (some (⟨plg g, ((nw + 1 : Nat) : Int), startS g.Seed, []⟩, qOf 0 0 [], r0)) := e0
    have H0' : EI ⟨plg g, ((nw + 1 : Nat) : Int), startS g.Seed, []⟩ (qOf 0 0 []) r0 0 0 [] := H0
    have hpg : Int.tmod g.Player 2 = plg g := rfl
    have N0 : NN ⟨plg g, ((nw + 1 : Nat) : Int), startS g.Seed, []⟩ [] := ⟨fun o h => absurd h List.not_mem_nil, fun o h => absurd h List.not_mem_nil⟩
    generalize (⟨plg g, ((nw + 1 : Nat) : Int), startS g.Seed, []⟩ : T_rollback_Engine) = x0 at e0' H0' f0 N0
    generalize qOf 0 0 [] = q0 at e0' H0'
    obtain ⟨h0, g0, HH0⟩ := new_of (F := F) (fr := 0) (mo := 256) ⟨by omega, by omega⟩ ⟨by omega, by omega⟩
    obtain ⟨x1, q1, r1, h1, k1, L1, P1, a1, a2, H1, N1, HH1, hL1, hP1⟩ := takes_a (F := F) hF hp S.m S.h hn (by omega) F 0 x0 q0 r0 h0 0 [] [] (by omega) (by omega) H0' N0 HH0 (by simp) (by simp)
    rw [show ((0 : Nat) : Int) = 0 from rfl] at a1 a2
    obtain ⟨x2, c1, c2, H2, N2⟩ := takes_b (F := F) (g := g) S.m hA (by omega) F n x1 (by omega) H1 N1
    obtain ⟨q3, r3, L3, d1, d2, H3, N3, hL3⟩ := takes_c (F := F) (g := g) hF S.h hB (by omega) F n q1 r1 L1 (by omega) H2 N2 (by omega)
    obtain ⟨h4, d, i1, i2, i3, HH4⟩ := drop_of (F := F) HH1 (p := IntKind.wrap .u64 (Int.tmod g.From 80))
    obtain ⟨d', j1, j2⟩ := rdrop_of (F := F) (mo := 256) HH1.f0 (by omega) (p := IntKind.wrap .u64 (Int.tmod g.From 80))
    obtain rfl : d' = d := by omega
    obtain ⟨⟨v1, v2⟩, l1, l2⟩ := plan_both (F := F) HH4 hF hp2
    obtain ⟨q5, r5, L5, m5, s5, o1, o2, H5, N5, hL5⟩ := pairs_both (F := F) hF HH4 T.p (show t.Pairs.length ≤ 100 by omega) T.l T.f H3 N3 (by omega)
    obtain ⟨r6, u1, H6⟩ := alike_of (F := F) H5 N5 hF
    obtain ⟨q7, r7, L7, m7, s7, w1, w2, H7, N7⟩ := inputs_both (F := F) hF HH4 T.p (show t.Inputs.length ≤ 100 by omega) T.i T.f H6 N5 (by omega)
    obtain ⟨r8, z1, H8⟩ := alike_of (F := F) H7 N7 hF
    have o1' : m_backfill_Pairs F (T_rollback_Engine.mk x2.player x2.window (T_api_State.mk x2.sure.Frame x2.sure.Seed x2.sure.Players x2.sure.Shots x2.sure.Score) x2.own) (T_queue_Queue.mk q3.first_ q3.l q3.last) (T_ring_Ring.mk r3.size r3.places) h4 t.Player t.First t.Pairs = _ := o1
    have o2' : m_hindcastref28_Pairs F (T_hindcastref26_Engine.mk (refE x2).Player (refE x2).Window (T_api_State.mk (refE x2).Sure.Frame (refE x2).Sure.Seed (refE x2).Sure.Players (refE x2).Sure.Shots (refE x2).Sure.Score) (refE x2).Own) (T_hindcastref24_Queue.mk (rOf 0 k1 L3).Begin (rOf 0 k1 L3).First (rOf 0 k1 L3).L) ⟨0 + (d' : Int), 256, P1.drop d'⟩ t.Player t.First t.Pairs = _ := o2
    have u1' : m_hindcastlaw28_alike F (T_rollback_Engine.mk x2.player x2.window (T_api_State.mk x2.sure.Frame x2.sure.Seed x2.sure.Players x2.sure.Shots x2.sure.Score) x2.own) q5 r5 (T_hindcastref26_Engine.mk (refE x2).Player (refE x2).Window (T_api_State.mk (refE x2).Sure.Frame (refE x2).Sure.Seed (refE x2).Sure.Players (refE x2).Sure.Shots (refE x2).Sure.Score) (refE x2).Own) (rOf 0 k1 L5) = _ := u1
    have w1' : m_backfill_Inputs F (T_rollback_Engine.mk x2.player x2.window (T_api_State.mk x2.sure.Frame x2.sure.Seed x2.sure.Players x2.sure.Shots x2.sure.Score) x2.own) q5 (T_ring_Ring.mk r6.size r6.places) h4 t.Player t.First t.Inputs = _ := w1
    have w2' : m_hindcastref28_Inputs F (T_hindcastref26_Engine.mk (refE x2).Player (refE x2).Window (T_api_State.mk (refE x2).Sure.Frame (refE x2).Sure.Seed (refE x2).Sure.Players (refE x2).Sure.Shots (refE x2).Sure.Score) (refE x2).Own) (rOf 0 k1 L5) ⟨0 + (d' : Int), 256, P1.drop d'⟩ t.Player t.First t.Inputs = _ := w2
    have z1' : m_hindcastlaw28_alike F (T_rollback_Engine.mk x2.player x2.window (T_api_State.mk x2.sure.Frame x2.sure.Seed x2.sure.Players x2.sure.Shots x2.sure.Score) x2.own) q7 r7 (T_hindcastref26_Engine.mk (refE x2).Player (refE x2).Window (T_api_State.mk (refE x2).Sure.Frame (refE x2).Sure.Seed (refE x2).Sure.Players (refE x2).Sure.Shots (refE x2).Sure.Score) (refE x2).Own) (rOf 0 k1 L7) = _ := z1
    simp only [cond_false, start_is (F := F) (show 3 ≤ F by omega), rstart_is, Option.bind_some, hpg, hW, e0', poE, g0, a1, hn, c1, d1, i1, f0, a2, c2, d2, j1, l1, l2, bne_self_eq_false, Bool.or_false, o1', o2', u1', Bool.not_true, w1', w2', z1', beq_self_eq_true, cond_true, hwk]

theorem takes_works : m_hindcastlaw28_works 1010 = some true := by kernel_rfl

theorem inputs_rd {W : World} {m : Nat} {v : Value} (h : Rdw TT W (m + 3) 23 [v]) : ∃ (a : Option Addr) (n cap : Nat) (xs : List Int), v = .slice a n cap ∧ n = xs.length ∧ n ≤ cap ∧ Rds W [] [] a (flat (e1 .u8) xs) ∧ ∀ o ∈ xs, 0 ≤ o := by
  obtain ⟨a, n, cap, xs, hv, hn, hc, _, hr, hok⟩ := rd_list (enc := e1 .u8) (ok := fun o => 0 ≤ o) h rfl rfl (e1_len _) (fun es hes h => by
    match es, hes with
    | [c], _ =>
      obtain ⟨x, rfl, wx⟩ := rd_cell h rfl
      exact ⟨x, rfl, (wf_u8 wx).1⟩)
  exact ⟨a, n, cap, xs, hv, hn, hc, hr, hok⟩
theorem pairs_rd {W : World} {m : Nat} {v : Value} (h : Rdw TT W (m + 3) 26 [v]) : ∃ (a : Option Addr) (n cap : Nat) (xs : List (Int × Int)), v = .slice a n cap ∧ n = xs.length ∧ n ≤ cap ∧ Rds W [] [] a (flat (e2 .u8) xs) ∧ ∀ o ∈ xs, 0 ≤ o.1 ∧ 0 ≤ o.2 := by
  obtain ⟨a, n, cap, xs, hv, hn, hc, _, hr, hok⟩ := rd_list (enc := e2 .u8) (ok := fun o : Int × Int => 0 ≤ o.1 ∧ 0 ≤ o.2) h rfl rfl (e2_len _) (fun es hes h => by
    obtain ⟨hl, hf⟩ := rd_arr h rfl
    match es, hl with
    | [a, b], _ =>
      obtain ⟨x, rfl, wx⟩ := rd_cell (hf 0 (by omega)) rfl
      obtain ⟨y, rfl, wy⟩ := rd_cell (hf 1 (by omega)) rfl
      exact ⟨(x, y), rfl, (wf_u8 wx).1, (wf_u8 wy).1⟩)
  exact ⟨a, n, cap, xs, hv, hn, hc, hr, hok⟩

theorem setup_rd {W : World} {m : Nat} {cs : List Value} (h : Rdw TT W (m + 4) 25 cs) :
    ∃ (g : T_hindcastlaw28_Setup) (a0 : Option Addr) (n0 c0 : Nat) (a1 : Option Addr) (n1 c1 : Nat), cs = [.int .u64 g.Seed, .int .u8 g.Player, .int .u8 g.Window, .int .u8 g.Sure, .int .u8 g.Ahead, .int .u8 g.Told, .int .u8 g.From, .slice a0 n0 c0, .slice a1 n1 c1] ∧ (n0 = g.Mine.length ∧ n0 ≤ c0 ∧ Rds W [] [] a0 (flat (e1 .u8) g.Mine)) ∧ (n1 = g.Theirs.length ∧ n1 ≤ c1 ∧ Rds W [] [] a1 (flat (e1 .u8) g.Theirs)) ∧ SetOk g := by
  obtain ⟨hl, hf⟩ := rd_struct h rfl
  match cs, hl with
  | [v0, v1, v2, v3, v4, v5, v6, v7, v8], _ =>
    obtain ⟨s, rfl, ws⟩ := rd_cell (hf (22, 0) (by simp)) rfl
    obtain ⟨p, rfl, wp⟩ := rd_cell (hf (5, 1) (by simp)) rfl
    obtain ⟨w, rfl, ww⟩ := rd_cell (hf (5, 2) (by simp)) rfl
    obtain ⟨u, rfl, wu⟩ := rd_cell (hf (5, 3) (by simp)) rfl
    obtain ⟨a, rfl, wa⟩ := rd_cell (hf (5, 4) (by simp)) rfl
    obtain ⟨t, rfl, wt⟩ := rd_cell (hf (5, 5) (by simp)) rfl
    obtain ⟨f, rfl, wf⟩ := rd_cell (hf (5, 6) (by simp)) rfl
    have h3 : Rdw TT W (m + 3) 23 [v7] := hf (23, 7) (by simp)
    have h4 : Rdw TT W (m + 3) 23 [v8] := hf (23, 8) (by simp)
    obtain ⟨a0, n0, c0, xs, rfl, hn0, hc0, hr0, k0⟩ := inputs_rd h3
    obtain ⟨a1, n1, c1, ys, rfl, hn1, hc1, hr1, k1⟩ := inputs_rd h4
    exact ⟨⟨s, p, w, u, a, t, f, xs, ys⟩, a0, n0, c0, a1, n1, c1, rfl, ⟨hn0, hc0, hr0⟩, ⟨hn1, hc1, hr1⟩, ⟨wf_u64 ws, (wf_u8 wp).1, (wf_u8 ww).1, (wf_u8 wu).1, (wf_u8 wa).1, (wf_u8 wt).1, k0, k1⟩⟩
theorem told_rd {W : World} {m : Nat} {cs : List Value} (h : Rdw TT W (m + 4) 28 cs) :
    ∃ (g : T_hindcastlaw28_Told) (a0 : Option Addr) (n0 c0 : Nat) (a1 : Option Addr) (n1 c1 : Nat), cs = [.int .u8 g.Player, .int .u64 g.First, .slice a0 n0 c0, .slice a1 n1 c1] ∧ (n0 = g.Pairs.length ∧ n0 ≤ c0 ∧ Rds W [] [] a0 (flat (e2 .u8) g.Pairs)) ∧ (n1 = g.Inputs.length ∧ n1 ≤ c1 ∧ Rds W [] [] a1 (flat (e1 .u8) g.Inputs)) ∧ TolOk g := by
  obtain ⟨hl, hf⟩ := rd_struct h rfl
  match cs, hl with
  | [v0, v1, v2, v3], _ =>
    obtain ⟨p, rfl, wp⟩ := rd_cell (hf (5, 0) (by simp)) rfl
    obtain ⟨f, rfl, wf⟩ := rd_cell (hf (22, 1) (by simp)) rfl
    have h3 : Rdw TT W (m + 3) 26 [v2] := hf (26, 2) (by simp)
    have h4 : Rdw TT W (m + 3) 23 [v3] := hf (23, 3) (by simp)
    obtain ⟨a0, n0, c0, xs, rfl, hn0, hc0, hr0, k0⟩ := pairs_rd h3
    obtain ⟨a1, n1, c1, ys, rfl, hn1, hc1, hr1, k1⟩ := inputs_rd h4
    exact ⟨⟨p, f, xs, ys⟩, a0, n0, c0, a1, n1, c1, rfl, ⟨hn0, hc0, hr0⟩, ⟨hn1, hc1, hr1⟩, ⟨(wf_u8 wp).1, wf_u64 wf, k0, k1⟩⟩

theorem backfillTakes_walk (W : World) (hG : Rds W [] [] (some ⟨0, 0, none⟩) (flat (fun _ : Unit => gl_state_playerBounds) [()]) ∧ Rds W [] [] (some ⟨1, 0, none⟩) (flat (fun _ : Unit => gl_state_shotBounds) [()]))
    (c0 c1 : List Value) (v2 : Value) (R0 : Rdw TT W 8 25 c0) (R1 : Rdw TT W 8 28 c1) (R2 : Rdw TT W 8 22 [v2]) :
    Calls Tryz.prog 3 #[.agg c0.toArray, .agg c1.toArray, v2] W fun e w' => e = .returned (.bool true) ∧ Inv W [] w' [] := by
  obtain ⟨g, a0, n0, d0, a1, n1, d1, rfl, ⟨hn0, hc0, hr0⟩, ⟨hn1, hc1, hr1⟩, S⟩ := setup_rd R0
  obtain ⟨t, b0, m0, e0, b1, m1, e1, rfl, ⟨hm0, he0, hs0⟩, ⟨hm1, he1, hs1⟩, T⟩ := told_rd R1
  obtain ⟨p, rfl, wp⟩ := rd_cell R2 rfl
  exact (k_hindcastlaw28_BackfillTakes (p0 := g) (p1 := t) hn0 hc0 hn1 hc1 hm0 he0 hm1 he1 (takes_pure (F := 1010) (by omega) takes_works S T (wf_u64 wp))).run W ⟨hr0, hr1, hs0, hs1, hG⟩

noncomputable def backfillTakes_world (os : Os) : World :=
  { World.holding Tryz.prog os ⟨#[], #[], []⟩ with heap := ((World.holding Tryz.prog os ⟨#[], #[], []⟩).heap.modify 0 fun | .cells _ t frozen => .cells gl_state_playerBounds.toArray t frozen | o => o).modify 1 fun | .cells _ t frozen => .cells gl_state_shotBounds.toArray t frozen | o => o }
theorem backfillTakes_laid_met (os : Os) : laidMet Tryz.prog Rows.backfillTakesRow.laid ((backfillTakes_world os).forCall (fun _ _ => 0) ⟨#[], #[.agg #[(.int .u64 0), (.int .u8 0), (.int .u8 0), (.int .u8 0), (.int .u8 0), (.int .u8 0), (.int .u8 0), (.slice none 0 0), (.slice none 0 0)], .agg #[(.int .u8 0), (.int .u64 0), (.slice none 0 0), (.slice none 0 0)], .int .u64 0], []⟩).memory := laidMet_of_run' 8 (by kernel_rfl) (by kernel_rfl)
theorem backfillTakes_reads (os : Os) {H : Type} (enc : TypeId × Value → H) : ∃ places, DataW.whole enc Tryz.prog ((backfillTakes_world os).forCall (fun _ _ => 0) ⟨#[], #[.agg #[(.int .u64 0), (.int .u8 0), (.int .u8 0), (.int .u8 0), (.int .u8 0), (.int .u8 0), (.int .u8 0), (.slice none 0 0), (.slice none 0 0)], .agg #[(.int .u8 0), (.int .u64 0), (.slice none 0 0), (.slice none 0 0)], .int .u64 0], []⟩).memory Tryz.f3.params.toList Rows.backfillTakesSpec.vars false (#[.agg #[(.int .u64 0), (.int .u8 0), (.int .u8 0), (.int .u8 0), (.int .u8 0), (.int .u8 0), (.int .u8 0), (.slice none 0 0), (.slice none 0 0)], .agg #[(.int .u8 0), (.int .u64 0), (.slice none 0 0), (.slice none 0 0)], .int .u64 0] : Array Value).toList 8 = some ([.agg [.lit (.int .u64 0), .lit (.int .u8 0), .lit (.int .u8 0), .lit (.int .u8 0), .lit (.int .u8 0), .lit (.int .u8 0), .lit (.int .u8 0), .nil, .nil], .agg [.lit (.int .u8 0), .lit (.int .u64 0), .nil, .nil], .lit (.int .u64 0)], [], places) := ⟨[], by kernel_rfl⟩
set_option maxRecDepth 100000 in
theorem backfillTakes_lifted (os : Os) (started : os.Started) (H : Type) (enc : TypeId × Value → H) (F : Stop.Interp) :
    ReturnsInHanded {} Tryz.checked os 3 .any ((OpenSpec.ofChange Rows.backfillTakesSpec).preRow enc Tryz.prog Tryz.f3 Rows.backfillTakesRow.domain false Rows.backfillTakesRow.laid) (((OpenSpec.ofChange Rows.backfillTakesSpec).at F).post enc Tryz.prog Tryz.f3 false true false false) := by
  obtain ⟨places, hx⟩ := backfillTakes_reads os enc
  refine returnsInHanded_of_row (C := Tryz.checked) (s := OpenSpec.ofChange Rows.backfillTakesSpec) (by kernel_rfl) started (by kernel_rfl) Tryz.func3
    (witness_row_at (enc := enc) (C := Tryz.checked) false (backfillTakes_world os) #[.agg #[(.int .u64 0), (.int .u8 0), (.int .u8 0), (.int .u8 0), (.int .u8 0), (.int .u8 0), (.int .u8 0), (.slice none 0 0), (.slice none 0 0)], .agg #[(.int .u8 0), (.int .u64 0), (.slice none 0 0), (.slice none 0 0)], .int .u64 0] rfl (by kernel_rfl) (by kernel_rfl) (by kernel_rfl)
      (OpenSpec.preRow_of_cond 8 hx (by kernel_rfl) (fun k hk => by cases hk) (by kernel_rfl) (backfillTakes_laid_met os))) ?_
  intro W base args ds gs before hval0 hW hcnd hk0 hsz0 hL _ _
  have hG := laid_cells hL
  have hval : ∀ (j : Nat) t v, Tryz.f3.params[j]? = some t → args[j]? = some v → Value.okWide Tryz.prog W .any base t v := hval0
  have hW' := hW
  obtain ⟨p, q, hA0, hV, rfl, hfz, hnd⟩ := hW
  have hA : DataW.TrodAll enc Tryz.prog W 0 (fun _ => true) true Tryz.f3.params.toList args.toList ds p := hA0
  obtain ⟨rfl, rfl⟩ := trodVars_none hV
  have hsz : ∀ x ∈ DataW.weightsEach Tryz.prog Tryz.f3.params.toList ds, x ≤ maxB := by
    have h1 : (DataW.weightsEach Tryz.prog (Tryz.f3.params.toList ++ []) (ds ++ [])).all (· ≤ reachBytes) = true := hsz0
    simp only [List.append_nil] at h1
    intro x hx; have h2 := List.all_eq_true.1 h1 x hx; simp only [decide_eq_true_eq] at h2; exact h2
  rw [Tryz.params3] at hA hval hsz
  have hR := rdw_all tt_ok ctt_ok (closed_of tt_closed) (fun _ => rfl) 8 hA hsz
  have hback := fun (W2 : World) (hb : Below W.heap.size W W2) => trodAll_below (by kernel_rfl : laidOutB Tryz.prog = true) hb (by kernel_rfl) hA
  obtain ⟨v0, vs0, d0, ds0, p0, q0, hargs, rfl, rfl, h0, r0⟩ := trodAll_cons hA
  obtain ⟨v1, vs1, d1, ds1, p1, q1, rfl, rfl, rfl, h1, r1⟩ := trodAll_cons r0
  obtain ⟨v2, vs2, d2, ds2, p2, q2, rfl, rfl, rfl, h2, r2⟩ := trodAll_cons r1
  obtain ⟨rfl, rfl, rfl⟩ := trodAll_nil r2
  obtain rfl : args = #[v0, v1, v2] := by cases args; simp_all
  have R0 := hR 0 25 v0 rfl rfl
  have e0 := val_agg tt_ok (t := 25) rfl rfl (hval 0 25 v0 rfl rfl)
  generalize v0.cells.toList = c0 at e0 R0
  subst e0
  have R1 := hR 1 28 v1 rfl rfl
  have e1 := val_agg tt_ok (t := 28) rfl rfl (hval 1 28 v1 rfl rfl)
  generalize v1.cells.toList = c1 at e1 R1
  subst e1
  have R2 := hR 2 22 v2 rfl rfl
  have e2 := val_one tt_ok (t := 22) rfl (by intro h; cases h) rfl (hval 2 22 v2 rfl rfl)
  rw [e2] at R2
  clear hval hval0 hsz hsz0 hR hA0
  refine (backfillTakes_walk W hG c0 c1 v2 R0 R1 R2).mono fun e W2 ⟨he, hI⟩ => ?_
  subst he
  exact ⟨_, rfl, _, _, _, [], _, [], hW', trodAll_mk1 (shut_bool Tryz.underlying4 _), hback _ (below_of_inv hI), rfl, (below_of_inv hI).frame _, fun h => by cases h⟩

theorem backfillTakes_said : Rows.BackfillTakesSaid :=
  OpenClaim.holds_of_cond 3 Tryz.f3 rfl rfl rfl rfl rfl rfl rfl ⟨rfl, rfl, rfl, rfl, rfl⟩ rfl rfl rfl rfl rfl (by kernel_rfl) Tryz.func3 (by kernel_rfl)
    (of_decide_eq_true (by kernel_rfl)) (by unfold Func.isWrapper; first | (rw [if_pos (by decide +kernel)]; kernel_rfl) | (rw [if_neg (by decide +kernel)]; exact ⟨rfl, rfl⟩))
    (fun os started H enc _ F => by rw [OpenClaim.pre_eq_preRow]; exact backfillTakes_lifted os started H enc F)

theorem backfillTakes_plain (f : FuncId) (fn : Func) (hf : Tryz.pinned.checked.prog.funcNamed "hindcast/hindcastlaw28.BackfillTakes" = some f) (hfn : Tryz.pinned.checked.prog.funcs[f]? = some fn) :
    false = Tryz.pinned.checked.prog.looks [] ∧ ∀ (j : Nat) t, fn.params[j]? = some t → Tryz.pinned.checked.prog.wantsStandIn t = false := by
  obtain rfl : f = 3 := Option.some.inj ((show Tryz.prog.funcNamed "hindcast/hindcastlaw28.BackfillTakes" = some 3 by kernel_rfl).symm.trans hf) |>.symm
  obtain rfl : fn = Tryz.f3 := (Option.some.inj (Tryz.func3.symm.trans hfn)).symm
  refine ⟨by kernel_rfl, fun j t ht => ?_⟩
  rw [Tryz.params3] at ht
  have hm : t ∈ [25, 28, 22] := by simpa using Array.mem_of_getElem? ht
  have hall : ([25, 28, 22].all fun u => !Tryz.prog.wantsStandIn u) = true := by kernel_rfl
  exact (show Tryz.prog.wantsStandIn t = false by simpa using List.all_eq_true.1 hall t hm)

theorem backfillTakes_holds : Rows.BackfillTakesCardSaid :=
  Claim7.holds_tied_plain_at .later [] _ _ _ _ backfillTakes_said (fun _ h => by cases h) (by kernel_rfl) (fun _ h => by cases h) backfillTakes_row_tie rfl ⟨rfl, rfl⟩ (by kernel_rfl) rfl backfillTakes_plain (by kernel_rfl)

end Go.Proofs.YtkdbpenjkcjimaaGreatDoor
