/-
  Chapter 26: the law RollbackPlays: whatever is done with an engine, it answers, and shows, what the document says.
-/
import Derived.Test.YtkekgagekgadmaaGreatDoorRollPure
import Derived.Test.YtkekgagekgadmaaGreatDoorStepFive
import Derived.Test.YtkekgagekgadmaaGreatDoorStateRow
import Derived.Test.YtkekgagekgadmaaGreatDoorCards
import Derived.Test.YtkekgagekgadmaaGreatDoorTie
import Derived.Test.YtkekgagekgadmaaGreatDoorLaid
import Derived.Test.YtkekgagekgadmaaGreatDoorWalk
import Derived.Deep.DeepHandedRow
namespace Go.Proofs.YtkekgagekgadmaaGreatDoor
open Go.Proofs.YtkekgagekgadmaaGreatDoor.Eng Go.RowKit Go.ChangeShapes Go.WideShapes Go.ChangeAt
set_option linter.unusedSimpArgs false
set_option linter.unusedVariables false
set_option maxHeartbeats 2000000
set_option maxRecDepth 20000

variable {F : Nat}

theorem i64_s {j : Nat} (h : j ≤ 1000000) : IntKind.wrap .i64 ((j : Int) + 1) = ((j + 1 : Nat) : Int) := by rw [wr_i64 ⟨by omega, by omega⟩]; omega

/-! ### The document's engine -/
def refE (x : T_rollback_Engine) : T_hindcastref26_Engine := ⟨x.player, x.window, x.sure, x.own⟩
structure NN (x : T_rollback_Engine) (L : List Int) : Prop where
  o : ∀ o ∈ x.own, 0 ≤ o
  l : ∀ o ∈ L, 0 ≤ o
theorem gs_nn {L : List Int} (h : ∀ o ∈ L, 0 ≤ o) (j : Nat) : 0 ≤ gs L j := by
  unfold gs
  split
  · rename_i hj
    rw [List.getD_eq_getElem?_getD, List.getElem?_eq_getElem hj]
    exact h _ (List.getElem_mem hj)
  · cases hl : L.getLast? with
    | none => exact Int.le_refl 0
    | some x =>
      obtain ⟨ys, rfl⟩ := List.getLast?_eq_some_iff.1 hl
      exact h x (by simp)
theorem pr_in {pl a c : Int} (ha : 0 ≤ a ∧ a ≤ 255) (hc : 0 ≤ c ∧ c ≤ 255) : (0 ≤ (pr pl a c).1 ∧ (pr pl a c).1 ≤ 255) ∧ (0 ≤ (pr pl a c).2 ∧ (pr pl a c).2 ≤ 255) := by
  unfold pr
  split
  · exact ⟨ha, hc⟩
  · exact ⟨hc, ha⟩

section
variable {x : T_rollback_Engine} {q : T_queue_Queue} {r : T_ring_Ring} {b k : Nat} {L : List Int}
theorem pr_ok (H : EI x q r b k L) (N : NN x L) {m : Nat} {o : Int} (ho : x.own[m]? = some o) : (0 ≤ (pr x.player o (gs L (k + m))).1 ∧ (pr x.player o (gs L (k + m))).1 ≤ 255) ∧ (0 ≤ (pr x.player o (gs L (k + m))).2 ∧ (pr x.player o (gs L (k + m))).2 ≤ 255) := by
  have h1 := H.ol o (List.mem_of_getElem? ho)
  have h2 := N.o o (List.mem_of_getElem? ho)
  have h3 := gs_lt H.ll (k + m)
  have h4 := gs_nn N.l (k + m)
  exact pr_in ⟨h2, by omega⟩ ⟨h4, by omega⟩
theorem rT_of (H : EI x q r b k L) (p : T_hindcastref24_Queue) : m_hindcastref26_Engine_T F (refE x) p = some (x.sure.Frame + (x.own.length : Int)) := by
  have := H.fr; have := H.hb; have := H.hl; have := H.hk; have := H.ow; have := H.w; have := H.so.1
  unfold m_hindcastref26_Engine_T refE
  simp only
  rw [wr_u64 (x := (x.own.length : Int)) ⟨by omega, by omega⟩, wr_u64 ⟨by omega, by omega⟩]
theorem rpair_of (H : EI x q r b k L) {m : Nat} {o : Int} (ho : x.own[m]? = some o) : m_hindcastref26_Engine_pair F (refE x) (rOf b k L) (x.sure.Frame + (m : Int)) = some (pr x.player o (gs L (k + m))) := by
  have hm := (List.getElem?_eq_some_iff.1 ho).1
  have h1 := H.fr; have := H.hb; have := H.hl; have := H.hk; have := H.ow; have := H.w; have := H.so.1
  unfold m_hindcastref26_Engine_pair refE
  simp only
  have w1 : IntKind.wrap .u64 (x.sure.Frame + (m : Int) - x.sure.Frame) = (m : Int) := by rw [wr_u64 ⟨by omega, by omega⟩]; omega
  have hg : m_hindcastref24_Queue_Guess F (rOf b k L) (x.sure.Frame + (m : Int)) = some (gs L (k + m)) := by
    rw [show x.sure.Frame + (m : Int) = ((b + k + m : Nat) : Int) by omega, guess_r H.qo (by omega), guess_gs (by omega), show b + k + m - b = k + m by omega]
  rw [w1, getI_nat, ho]
  simp only [Option.bind_some, hg]
  rcases H.pl with h | h <;> rw [h] <;> rfl

theorem rshown_loop (H : EI x q r b k L) (N : NN x L) (hF : 1010 ≤ F) : ∀ (g m : Nat), x.own.length - m < g → m ≤ x.own.length →
    m_hindcastref26_Engine_Shown_L8 F (refE x) (rOf b k L) g (x.sure.Frame + (m : Int)) (shw x.sure x.player L k x.own m).Frame (shw x.sure x.player L k x.own m).Seed (shw x.sure x.player L k x.own m).Players (shw x.sure x.player L k x.own m).Shots (shw x.sure x.player L k x.own m).Score =
      some ((shw x.sure x.player L k x.own x.own.length).Frame, (shw x.sure x.player L k x.own x.own.length).Seed, (shw x.sure x.player L k x.own x.own.length).Players, (shw x.sure x.player L k x.own x.own.length).Shots, (shw x.sure x.player L k x.own x.own.length).Score)
  | 0, m, h, _ => by omega
  | g + 1, m, h, hm => by
    have := H.fr; have := H.hb; have := H.hl; have := H.hk; have := H.ow; have := H.w; have := H.so.1
    rw [m_hindcastref26_Engine_Shown_L8.eq_2, rT_of H]
    simp only [Option.bind_some]
    by_cases hlt : m < x.own.length
    · have hx : x.own[m]? = some x.own[m] := List.getElem?_eq_getElem hlt
      obtain ⟨f1, f2, f3⟩ := H.fs.f m hm
      obtain ⟨p1, p2⟩ := pr_ok H N hx
      have hst : m_hindcastref09_Step F (shw x.sure x.player L k x.own m) (pr x.player x.own[m] (gs L (k + m))) = some (shw x.sure x.player L k x.own (m + 1)) := by
        rw [shw_next hx]
        exact rstep_of f2 (by have := stGood_leI f3; omega) (by omega) p1 p2
      have hst' : m_hindcastref09_Step F (T_api_State.mk (shw x.sure x.player L k x.own m).Frame (shw x.sure x.player L k x.own m).Seed (shw x.sure x.player L k x.own m).Players (shw x.sure x.player L k x.own m).Shots (shw x.sure x.player L k x.own m).Score) (pr x.player x.own[m] (gs L (k + m))) = _ := hst
      have w1 : IntKind.wrap .u64 (x.sure.Frame + (m : Int) + 1) = x.sure.Frame + ((m + 1 : Nat) : Int) := by rw [wr_u64 ⟨by omega, by omega⟩]; omega
      rw [decide_eq_true (show x.sure.Frame + (m : Int) < x.sure.Frame + (x.own.length : Int) by omega), cond_true]
      simp only [rpair_of (F := F) H hx, Option.bind_some, hst', w1]
      exact rshown_loop H N hF g (m + 1) (by omega) hlt
    · obtain rfl : m = x.own.length := by omega
      rw [decide_eq_false (show ¬ x.sure.Frame + (x.own.length : Int) < x.sure.Frame + (x.own.length : Int) by omega), cond_false]
theorem rshown_of (H : EI x q r b k L) (N : NN x L) (hF : 1010 ≤ F) : m_hindcastref26_Engine_Shown F (refE x) (rOf b k L) = some (shw x.sure x.player L k x.own x.own.length) := by
  have := H.ow; have := H.w
  have h0 := rshown_loop (F := F) H N hF F 0 (by omega) (by omega)
  rw [show x.sure.Frame + ((0 : Nat) : Int) = x.sure.Frame by simp, shw_zero] at h0
  unfold m_hindcastref26_Engine_Shown
  have hc := rcopy_of (F := F) (s := x.sure) (by have := stGood_leI H.sg; omega)
  have hc' : m_hindcastref08_Copy F (refE x).Sure = some x.sure := hc
  have h0' : m_hindcastref26_Engine_Shown_L8 F (refE x) (rOf b k L) F (refE x).Sure.Frame x.sure.Frame x.sure.Seed x.sure.Players x.sure.Shots x.sure.Score = _ := h0
  rw [hc']
  simp only [Option.bind_some, h0']

theorem rat_k (H : EI x q r b k L) : m_hindcastref24_Queue_At F (rOf b k L) x.sure.Frame = some (atv b k L (b + k)) := by
  have := H.hb; have := H.hl; have := H.hk
  rw [H.fr]
  exact at_r H.qo (by omega)
theorem atv_k : (atv b k L (b + k)).2 = decide (k < L.length) := by
  unfold atv
  by_cases h : k < L.length
  · rw [if_neg (by omega), decide_eq_true h]
  · rw [if_pos (by omega), decide_eq_false h]
theorem rnext_yes (H : EI x q r b k L) {o : Int} {os : List Int} (ho : x.own = o :: os) (hk : k < L.length) : m_hindcastref26_Engine_Next F (refE x) (rOf b k L) = some (pr x.player o (gs L k), true) := by
  have hp := rpair_of (F := F) H (m := 0) (o := o) (by rw [ho]; rfl)
  rw [show x.sure.Frame + ((0 : Nat) : Int) = x.sure.Frame by simp, Nat.add_zero] at hp
  have hp' : m_hindcastref26_Engine_pair F (refE x) (rOf b k L) (refE x).Sure.Frame = _ := hp
  have ha : m_hindcastref24_Queue_At F (rOf b k L) (refE x).Sure.Frame = _ := rat_k H
  have hl0 : (((refE x).Own.length : Int) == 0) = false := by show ((x.own.length : Int) == 0) = false; rw [ho]; simp; omega
  unfold m_hindcastref26_Engine_Next
  rw [ha]
  simp only [Option.bind_some, hl0, cond_false, atv_k, decide_eq_true hk, Bool.not_true, hp']
theorem rnext_no (H : EI x q r b k L) (h : x.own = [] ∨ L.length = k) : m_hindcastref26_Engine_Next F (refE x) (rOf b k L) = some ((0, 0), false) := by
  have ha : m_hindcastref24_Queue_At F (rOf b k L) (refE x).Sure.Frame = _ := rat_k H
  unfold m_hindcastref26_Engine_Next
  rw [ha]
  by_cases h0 : x.own = []
  · have hl0 : (((refE x).Own.length : Int) == 0) = true := by show ((x.own.length : Int) == 0) = true; rw [h0]; rfl
    simp only [Option.bind_some, hl0, cond_true]
  · have hl0 : (((refE x).Own.length : Int) == 0) = false := by
      have := List.length_pos_iff.2 h0
      show ((x.own.length : Int) == 0) = false
      simp; omega
    simp only [Option.bind_some, hl0, cond_false, atv_k, decide_eq_false (show ¬ k < L.length by have := h.resolve_left h0; omega), Bool.not_false, cond_true]
theorem rconfirm_no (H : EI x q r b k L) {f : Int} (h : x.own = [] ∨ L.length = k ∨ f ≤ x.sure.Frame) : m_hindcastref26_Engine_Confirm F (refE x) (rOf b k L) f = some (refE x, rOf b k L, (0, 0), false) := by
  unfold m_hindcastref26_Engine_Confirm
  have hd : ∀ v : Bool, (cond (decide (f ≤ (refE x).Sure.Frame)) (some true) (some v)) = some (decide (f ≤ x.sure.Frame) || v) := fun v => r_or _ _
  by_cases h0 : x.own = [] ∨ L.length = k
  · rw [rnext_no H h0]
    simp only [Option.bind_some, hd, Bool.not_false, Bool.or_true, cond_true]
  · have hf : f ≤ x.sure.Frame := by
      rcases h with h | h | h
      · exact absurd (.inl h) h0
      · exact absurd (.inr h) h0
      · exact h
    obtain ⟨o, os, ho⟩ : ∃ o os, x.own = o :: os := by
      cases hx : x.own with
      | nil => exact absurd (.inl hx) h0
      | cons o os => exact ⟨o, os, rfl⟩
    have hk : k < L.length := by
      have := H.hk
      rcases Nat.lt_or_ge k L.length with h | h
      · exact h
      · exact absurd (.inr (by omega)) h0
    rw [rnext_yes H ho hk]
    simp only [Option.bind_some, hd, decide_eq_true hf, Bool.true_or, cond_true]
theorem rconfirm_yes (H : EI x q r b k L) (N : NN x L) (hF : 1010 ≤ F) {f : Int} {o : Int} {os : List Int} (ho : x.own = o :: os) (hk : k < L.length) (hf : x.sure.Frame < f) :
    m_hindcastref26_Engine_Confirm F (refE x) (rOf b k L) f = some (refE ⟨x.player, x.window, shw x.sure x.player L k x.own 1, os⟩, rOf b (k + 1) L, pr x.player o (gs L k), true) := by
  have hfr := H.fr
  have hlen : x.own.length = os.length + 1 := by rw [ho]; rfl
  obtain ⟨f1, f2, f3⟩ := H.fs.f 1 (by omega)
  obtain ⟨p1, p2⟩ := pr_ok H N (m := 0) (o := o) (by rw [ho]; rfl)
  rw [Nat.add_zero] at p1 p2
  have hst : m_hindcastref09_Step F (refE x).Sure (pr x.player o (gs L k)) = some (shw x.sure x.player L k x.own 1) := by
    rw [show (1 : Nat) = 0 + 1 from rfl, shw_next (o := o) (by rw [ho]; rfl)]
    exact rstep_of H.so (by have := stGood_leI H.sg; show x.sure.Shots.length ≤ 100; omega) (by omega) p1 p2
  have how := H.ow; have hw := H.w
  have hcut : cutI (refE x).Own 1 ((refE x).Own.length : Int) = some os := cutI_of (i := 1) (j := x.own.length) rfl rfl (by omega) (Nat.le_refl _) (by show os = (x.own.take x.own.length).drop 1; rw [List.take_length, ho]; rfl)
  have hdrop : m_hindcastref24_Queue_Drop F (rOf b k L) (shw x.sure x.player L k x.own 1).Frame = some (rOf b (k + 1) L) := by
    rw [f1, show x.sure.Frame + ((1 : Nat) : Int) = ((b + k + 1 : Nat) : Int) by omega, drop_r H.qo]
    have : dropv b k L (b + k + 1) = k + 1 := by
      unfold dropv
      rw [if_neg (by omega), Nat.min_eq_left (by omega)]
      omega
    rw [this]
  have hd : (decide (f ≤ (refE x).Sure.Frame)) = false := decide_eq_false (show ¬ f ≤ x.sure.Frame by omega)
  unfold m_hindcastref26_Engine_Confirm
  rw [rnext_yes H ho hk]
  simp only [Option.bind_some, hd, cond_false, Bool.not_true, hst, hcut, hdrop]
  rfl

theorem isame_loop {l : List Int} (hl : l.length ≤ 1000) : ∀ (m i : Nat), l.length - i < m → i ≤ l.length → m_hindcastref06_Same_L14 F l l m (i : Int) = some (.inl false)
  | 0, i, h, _ => by omega
  | m + 1, i, h, hi => by
    rw [m_hindcastref06_Same_L14.eq_2]
    by_cases h1 : i < l.length
    · rw [decide_eq_true (show (i : Int) < (l.length : Int) by omega), cond_true]
      simp only [getI_nat, List.getElem?_eq_getElem h1, Option.bind_some, bne_self_eq_false, cond_false, i64_s (show i ≤ 1000000 by omega)]
      exact isame_loop hl m (i + 1) (by omega) (by omega)
    · rw [decide_eq_false (show ¬ (i : Int) < (l.length : Int) by omega), cond_false]
theorem isame_self {l : List Int} (hF : 1010 ≤ F) (hl : l.length ≤ 1000) : m_hindcastref06_Same F l l = some true := by
  have := isame_loop (F := F) hl F 0 (by omega) (by omega)
  rw [show ((0 : Nat) : Int) = 0 from rfl] at this
  unfold m_hindcastref06_Same
  simp only [bne_self_eq_false, cond_false, this, Option.bind_some, orE_l]
theorem ssame_self {s : T_api_State} (hF : 1010 ≤ F) (h : s.Shots.length ≤ 1000) : m_hindcastref08_Same F s s = some true := by
  rw [rsame_of (by omega) (by omega), stE_refl]

theorem alike_of (H : EI x q r b k L) (N : NN x L) (hF : 1010 ≤ F) (ask : Bool) : ∃ r', m_hindcastlaw26_alike F x q r (refE x) (rOf b k L) ask = some (r', true) ∧ EI x q r' b k L := by
  have how := H.ow; have hw := H.w
  have hsl := stGood_leI H.sg
  obtain ⟨v, is, n1, n2⟩ : ∃ v is, m_rollback_Engine_Next F x q r = some (v, is) ∧ m_hindcastref26_Engine_Next F (refE x) (rOf b k L) = some (v, is) := by
    by_cases h0 : x.own = [] ∨ L.length = k
    · exact ⟨_, _, next_no H h0, rnext_no H h0⟩
    · obtain ⟨o, os, ho⟩ : ∃ o os, x.own = o :: os := by
        cases hx : x.own with
        | nil => exact absurd (.inl hx) h0
        | cons o os => exact ⟨o, os, rfl⟩
      have hk : k < L.length := by
        have := H.hk
        rcases Nat.lt_or_ge k L.length with h | h
        · exact h
        · exact absurd (.inr (by omega)) h0
      exact ⟨_, _, next_yes H ho hk, rnext_yes H ho hk⟩
  obtain ⟨r', e1, H'⟩ := shown_of (F := F) H hF
  have e2 := rshown_of (F := F) H N hF
  have hgood : (shw x.sure x.player L k x.own x.own.length).Shots.length ≤ 1000 := by
    have := stGood_leI (H.fs.f _ (Nat.le_refl _)).2.2
    omega
  have hc : ((refE x).Sure.Frame) = x.sure.Frame := rfl
  have ho : (refE x).Own = x.own := rfl
  have hs : (refE x).Sure = x.sure := rfl
  unfold m_hindcastlaw26_alike
  rw [n1, n2]
  simp only [Option.bind_some, beq_self_eq_true, Bool.and_self, Bool.not_true, cond_false, bne_self_eq_false, C_of, hc, T_of (F := F) H q r, rT_of (F := F) H, Known_of (F := F) H r, known_r H.qo, Own_of (F := F) (x := x) q r (by omega), ho, isame_self (F := F) (l := x.own) hF (by omega), State_of (F := F) H q r, hs, ssame_self (F := F) (s := x.sure) hF (by omega)]
  cases ask with
  | false => exact ⟨r, rfl, H⟩
  | true =>
    simp only [Bool.not_true, cond_false, e1, e2, Option.bind_some, ssame_self (F := F) hF hgood]
    exact ⟨r', rfl, H'⟩

structure ActOk (a : T_hindcastlaw26_Act) : Prop where
  f : 0 ≤ a.F ∧ a.F ≤ 18446744073709551615
  i : 0 ≤ a.I ∧ a.I ≤ 255

theorem plays_loop (hF : 1010 ≤ F) {l : List T_hindcastlaw26_Act} (hl : l.length ≤ 100) (ho : ∀ a ∈ l, ActOk a) {b : Nat} : ∀ (m i : Nat) (x : T_rollback_Engine) (q : T_queue_Queue) (r : T_ring_Ring) (k : Nat) (L : List Int), l.length - i < m → i ≤ l.length → EI x q r b k L → NN x L → L.length ≤ i →
    ∃ x' q' r' k' L', m_hindcastlaw26_RollbackPlays_L34 F l m (i : Int) x.player x.window x.sure.Frame x.sure.Seed x.sure.Players x.sure.Shots x.sure.Score x.own q.first_ q.l q.last r.size r.places (refE x).Player (refE x).Window (refE x).Sure.Frame (refE x).Sure.Seed (refE x).Sure.Players (refE x).Sure.Shots (refE x).Sure.Score (refE x).Own (rOf b k L).Begin (rOf b k L).First (rOf b k L).L =
      some (.inl (false, x'.player, x'.window, x'.sure.Frame, x'.sure.Seed, x'.sure.Players, x'.sure.Shots, x'.sure.Score, x'.own, q'.first_, q'.l, q'.last, r'.size, r'.places, (refE x').Player, (refE x').Window, (refE x').Sure.Frame, (refE x').Sure.Seed, (refE x').Sure.Players, (refE x').Sure.Shots, (refE x').Sure.Score, (refE x').Own, (rOf b k' L').Begin, (rOf b k' L').First, (rOf b k' L').L)) ∧
      EI x' q' r' b k' L' ∧ NN x' L'
  | 0, i, x, q, r, k, L, h, _, _, _, _ => by omega
  | m + 1, i, x, q, r, k, L, h, hi, H, N, hLi => by
    rw [m_hindcastlaw26_RollbackPlays_L34.eq_2]
    by_cases hlt : i < l.length
    · have hx : l[i]? = some l[i] := List.getElem?_eq_getElem hlt
      have hok := ho _ (List.getElem_mem hlt)
      generalize l[i] = a at hx hok
      have hxe : T_rollback_Engine.mk x.player x.window (T_api_State.mk x.sure.Frame x.sure.Seed x.sure.Players x.sure.Shots x.sure.Score) x.own = x := rfl
      have hqe : T_queue_Queue.mk q.first_ q.l q.last = q := rfl
      have hre : T_ring_Ring.mk r.size r.places = r := rfl
      have hye : T_hindcastref26_Engine.mk (refE x).Player (refE x).Window (T_api_State.mk (refE x).Sure.Frame (refE x).Sure.Seed (refE x).Sure.Players (refE x).Sure.Shots (refE x).Sure.Score) (refE x).Own = refE x := rfl
      have hpe : T_hindcastref24_Queue.mk (rOf b k L).Begin (rOf b k L).First (rOf b k L).L = rOf b k L := rfl
      rw [decide_eq_true (show (i : Int) < (l.length : Int) by omega), cond_true, getI_nat, hx, Option.bind_some, hxe, hqe, hre, hye, hpe, i64_s (show i ≤ 1000000 by omega)]
      by_cases a0 : Int.tmod a.What 5 = 0 ∨ Int.tmod a.What 5 = 1
      · have hj : (cond (Int.tmod a.What 5 == 0) (some (Int.tmod a.What 5 == 0)) (some (Int.tmod a.What 5 == 1))) = some true := by
          rcases a0 with a0 | a0 <;> rw [a0] <;> rfl
        rw [hj, Option.bind_some, cond_true]
        obtain ⟨x1, e, e1, e2, H1, N1⟩ : ∃ x1 e, m_rollback_Engine_Local F x q r a.I = some (x1, e) ∧ m_hindcastref26_Engine_Local F (refE x) (rOf b k L) a.I = some (refE x1, e) ∧ EI x1 q r b k L ∧ NN x1 L := by
          by_cases hi64 : a.I < 64
          · by_cases hfl : (x.own.length : Int) < x.window
            · obtain ⟨e1, H1⟩ := local_ok (F := F) H hi64 hfl
              refine ⟨_, _, e1, ?_, H1, ⟨?_, N.l⟩⟩
              · have how := H.ow; have hw := H.w
                unfold m_hindcastref26_Engine_Local
                have hap : appI (refE x).Own [a.I] = some (x.own ++ [a.I]) := appI_of (by show x.own.length + _ ≤ _; simp; omega)
                rw [decide_eq_false (show ¬ (64 : Int) ≤ a.I by omega), cond_false, decide_eq_false (show ¬ (refE x).Window ≤ ((refE x).Own.length : Int) from by show ¬ x.window ≤ (x.own.length : Int); omega), cond_false, hap]
                rfl
              · intro o ho
                rcases List.mem_append.1 ho with h | h
                · exact N.o o h
                · rw [List.mem_singleton.1 h]; exact hok.i.1
            · refine ⟨_, _, local_full x q r hi64 (by omega), ?_, H, N⟩
              unfold m_hindcastref26_Engine_Local
              rw [decide_eq_false (show ¬ (64 : Int) ≤ a.I by omega), cond_false, decide_eq_true (show (refE x).Window ≤ ((refE x).Own.length : Int) from by show x.window ≤ (x.own.length : Int); omega), cond_true]
          · refine ⟨_, _, local_bad x q r hi64, ?_, H, N⟩
            unfold m_hindcastref26_Engine_Local
            rw [decide_eq_true (show (64 : Int) ≤ a.I by omega), cond_true]
        obtain ⟨r', e3, H3⟩ := alike_of (F := F) H1 N1 hF a.Ask
        obtain ⟨x', q', r'', k', L', e5, R1, R2⟩ := plays_loop hF hl ho m (i + 1) x1 q r' k L (by omega) (by omega) H3 N1 (by omega)
        refine ⟨x', q', r'', k', L', ?_, R1, R2⟩
        rw [← e5, e1, Option.bind_some]
        simp only [e2, Option.bind_some, bne_self_eq_false, cond_false, e3, Bool.not_true]
      · have hj : (cond (Int.tmod a.What 5 == 0) (some (Int.tmod a.What 5 == 0)) (some (Int.tmod a.What 5 == 1))) = some false := by
          rw [show (Int.tmod a.What 5 == 0) = false by simp; omega, show (Int.tmod a.What 5 == 1) = false by simp; omega]; rfl
        rw [hj, Option.bind_some, cond_false]
        by_cases a1 : Int.tmod a.What 5 = 2 ∨ Int.tmod a.What 5 = 3
        · have hj : (cond (Int.tmod a.What 5 == 2) (some (Int.tmod a.What 5 == 2)) (some (Int.tmod a.What 5 == 3))) = some true := by
            rcases a1 with a1 | a1 <;> rw [a1] <;> rfl
          rw [hj, Option.bind_some, cond_true]
          obtain ⟨f, hf⟩ := Int.eq_ofNat_of_zero_le hok.f.1
          have hf2 := hok.f.2
          obtain ⟨r1, e1, H1⟩ := remote_of (F := F) H hF (by omega) f a.I
          have e2 : m_hindcastref26_Engine_Remote F (refE x) (rOf b k L) a.F a.I = some (rOf b k (addv b k L f a.I).1, (addv b k L f a.I).2) := by
            unfold m_hindcastref26_Engine_Remote
            rw [hf, add_r H.qo (by omega)]
            rfl
          rw [← hf] at e1
          have hlen : (addv b k L f a.I).1.length ≤ i + 1 := by
            have := (addv_ok (p := f) (i := a.I) H.qo (by omega)).2
            omega
          have N1 : NN x (addv b k L f a.I).1 := by
            refine ⟨N.o, ?_⟩
            rcases addv_cases b k L f a.I with h | ⟨h, _⟩
            · rw [h]; exact N.l
            · rw [h]
              intro o ho
              rcases List.mem_append.1 ho with h | h
              · exact N.l o h
              · rw [List.mem_singleton.1 h]; exact hok.i.1
          obtain ⟨r', e3, H3⟩ := alike_of (F := F) H1 N1 hF a.Ask
          obtain ⟨x', q', r'', k', L', e5, R1, R2⟩ := plays_loop hF hl ho m (i + 1) x _ r' k _ (by omega) (by omega) H3 N1 hlen
          refine ⟨x', q', r'', k', L', ?_, R1, R2⟩
          rw [← e5, e1, Option.bind_some]
          simp only [e2, Option.bind_some, bne_self_eq_false, cond_false, e3, Bool.not_true]
        · have hj : (cond (Int.tmod a.What 5 == 2) (some (Int.tmod a.What 5 == 2)) (some (Int.tmod a.What 5 == 3))) = some false := by
            rw [show (Int.tmod a.What 5 == 2) = false by simp; omega, show (Int.tmod a.What 5 == 3) = false by simp; omega]; rfl
          rw [hj, Option.bind_some, cond_false]
          obtain ⟨x1, q1, r1, k1, v, is, e1, e2, H1, N1⟩ : ∃ x1 q1 r1 k1 v is, m_rollback_Engine_Confirm F x q r a.F = some (x1, q1, r1, v, is) ∧ m_hindcastref26_Engine_Confirm F (refE x) (rOf b k L) a.F = some (refE x1, rOf b k1 L, v, is) ∧ EI x1 q1 r1 b k1 L ∧ NN x1 L := by
            by_cases hno : x.own = [] ∨ L.length = k ∨ a.F ≤ x.sure.Frame
            · exact ⟨_, _, _, _, _, _, confirm_no H hno, rconfirm_no H hno, H, N⟩
            · obtain ⟨o, os, ho⟩ : ∃ o os, x.own = o :: os := by
                cases hx : x.own with
                | nil => exact absurd (.inl hx) hno
                | cons o os => exact ⟨o, os, rfl⟩
              have hk : k < L.length := by
                have := H.hk
                rcases Nat.lt_or_ge k L.length with h | h
                · exact h
                · exact absurd (.inr (.inl (by omega))) hno
              have hlt : x.sure.Frame < a.F := by
                rcases Int.lt_or_le x.sure.Frame a.F with h | h
                · exact h
                · exact absurd (.inr (.inr h)) hno
              obtain ⟨r4, e4, H4⟩ := confirm_yes (F := F) H hF ho hk hlt
              exact ⟨_, _, _, _, _, _, e4, rconfirm_yes H N hF ho hk hlt, H4, ⟨fun o' h' => N.o o' (by rw [ho]; exact List.mem_cons_of_mem _ h'), N.l⟩⟩
          obtain ⟨r', e3, H3⟩ := alike_of (F := F) H1 N1 hF a.Ask
          obtain ⟨x', q', r'', k', L', e5, R1, R2⟩ := plays_loop hF hl ho m (i + 1) x1 q1 r' k1 L (by omega) (by omega) H3 N1 (by omega)
          refine ⟨x', q', r'', k', L', ?_, R1, R2⟩
          rw [← e5, e1, Option.bind_some]
          simp only [e2, Option.bind_some, beq_self_eq_true, Bool.and_self, Bool.not_true, bne_self_eq_false, cond_false, e3]
    · rw [decide_eq_false (show ¬ (i : Int) < (l.length : Int) by omega), cond_false]
      exact ⟨x, q, r, k, L, rfl, H, N⟩
end

theorem plays_pure (hF : 1010 ≤ F) (hwk : m_hindcastlaw26_works F = some true) {p0 : T_hindcastlaw26_Setup} {l : List T_hindcastlaw26_Act} (so : StOk p0.S) (hp : 0 ≤ p0.Player) (ho : ∀ a ∈ l, ActOk a) : m_hindcastlaw26_RollbackPlays F p0 l = some true := by
  unfold m_hindcastlaw26_RollbackPlays
  simp only [r_or, Option.bind_some]
  by_cases hg : ((decide ((100 : Int) < (p0.S.Shots.length : Int))) || (decide ((100 : Int) < (l.length : Int)))) = true
  · rw [hg]
    simp only [cond_true, hwk, Option.bind_some]
  · rw [Bool.not_eq_true] at hg
    rw [hg]
    rw [Bool.or_eq_false_iff] at hg
    have hsl := of_decide_eq_false hg.1
    have hll := of_decide_eq_false hg.2
    rw [cond_false, rcopy_of (F := F) (s := p0.S) (by omega)]
    simp only [Option.bind_some]
    have hck := check_of (F := F) so (by omega) (by omega) (by omega)
    have hrck := rcheck_of (F := F) (s := p0.S) (by omega) (by omega)
    by_cases hv : stGood p0.S = true ∧ p0.S.Frame ≤ 9223372036854775808 ∧ p0.Player ≤ 1 ∧ 1 ≤ p0.Window ∧ p0.Window ≤ 12
    · obtain ⟨v1, v2, v3, v4, v5⟩ := hv
      obtain ⟨r0, e0, H0⟩ := new_ei (F := F) hF so v1 v2 (show p0.Player = 0 ∨ p0.Player = 1 by omega) ⟨v4, v5⟩
      have h0 := so.1.1
      have e1 : m_hindcastref26_New F p0.S p0.Player p0.Window = some (some (refE ⟨p0.Player, p0.Window, p0.S, []⟩, rOf p0.S.Frame.toNat 0 [])) := by
        unfold m_hindcastref26_New m_hindcastref24_New
        rw [hrck, if_pos v1]
        have hq : T_hindcastref24_Queue.mk p0.S.Frame p0.S.Frame [] = rOf p0.S.Frame.toNat 0 [] := by
          unfold rOf
          simp [Int.toNat_of_nonneg h0]
        simp only [Option.bind_some, show ((0 : Int) != 0) = false from rfl, cond_false, decide_eq_false (show ¬ (9223372036854775808 : Int) < p0.S.Frame by omega), decide_eq_false (show ¬ (1 : Int) < p0.Player by omega), decide_eq_false (show ¬ p0.Window < 1 by omega), decide_eq_false (show ¬ (12 : Int) < p0.Window by omega), rcopy_of (F := F) (s := p0.S) (by omega), hq]
        rfl
      obtain ⟨x1, q1, r1, k1, L1, e2, H1, N1⟩ := plays_loop (F := F) hF (show l.length ≤ 100 by omega) ho F 0 _ _ r0 0 [] (by omega) (by omega) H0 ⟨fun o h => absurd h List.not_mem_nil, fun o h => absurd h List.not_mem_nil⟩ (by simp)
      rw [show ((0 : Nat) : Int) = 0 from rfl] at e2
      obtain ⟨r2, e3, H2⟩ := alike_of (F := F) H1 N1 hF true
      have e3' : m_hindcastlaw26_alike F (T_rollback_Engine.mk x1.player x1.window (T_api_State.mk x1.sure.Frame x1.sure.Seed x1.sure.Players x1.sure.Shots x1.sure.Score) x1.own) (T_queue_Queue.mk q1.first_ q1.l q1.last) (T_ring_Ring.mk r1.size r1.places) (T_hindcastref26_Engine.mk (refE x1).Player (refE x1).Window (T_api_State.mk (refE x1).Sure.Frame (refE x1).Sure.Seed (refE x1).Sure.Players (refE x1).Sure.Shots (refE x1).Sure.Score) (refE x1).Own) (T_hindcastref24_Queue.mk (rOf p0.S.Frame.toNat k1 L1).Begin (rOf p0.S.Frame.toNat k1 L1).First (rOf p0.S.Frame.toNat k1 L1).L) true = _ := e3
      simp only [e0, e1, Option.bind_some, poE, bne_self_eq_false, cond_false, e2, orE_l, e3', cond_true, hwk]
    · have hb : ∀ v : Int, v = (if stGood p0.S = true then 0 else 4) → (((((v != 0) || decide ((9223372036854775808 : Int) < p0.S.Frame)) || decide ((1 : Int) < p0.Player)) || decide (p0.Window < (1 : Int))) || decide ((12 : Int) < p0.Window)) = true := by
        intro v hv'
        cases hres : (((((v != 0) || decide ((9223372036854775808 : Int) < p0.S.Frame)) || decide ((1 : Int) < p0.Player)) || decide (p0.Window < (1 : Int))) || decide ((12 : Int) < p0.Window)) with
        | true => rfl
        | false =>
          exfalso
          simp only [Bool.or_eq_false_iff, decide_eq_false_iff_not, bne_eq_false_iff_eq] at hres
          obtain ⟨⟨⟨⟨b1, b2⟩, b3⟩, b4⟩, b5⟩ := hres
          refine hv ⟨?_, by omega, by omega, by omega, by omega⟩
          cases hsg : stGood p0.S with
          | true => rfl
          | false => rw [hsg] at hv'; simp at hv'; omega
      have e0 : m_rollback_New F p0.S p0.Player p0.Window = some none := by
        unfold m_rollback_New
        simp only [r_or, Option.bind_some, hck, hb _ rfl, cond_true]
      have e1 : m_hindcastref26_New F p0.S p0.Player p0.Window = some none := by
        unfold m_hindcastref26_New
        simp only [r_or, Option.bind_some, hrck, hb _ rfl, cond_true]
      simp only [e0, e1, Option.bind_some, poE, bne_self_eq_false, cond_false, hwk]

theorem plays_works : m_hindcastlaw26_works 1010 = some true := by kernel_rfl

theorem rd_bool' {w : World} {m : Nat} {t sz by' : Nat} {z : Option (List Value)} {cs : List Value} (h : Rdw TT w (m + 1) t cs) (hl : lookT TT t = some ⟨.bool, sz, by', z⟩) : ∃ b, cs = [.bool b] := by
  unfold Rdw at h; rw [hl] at h; exact h
theorem act_rd {w : World} {m : Nat} {cs : List Value} (h : Rdw TT w (m + 2) 42 cs) : ∃ x : T_hindcastlaw26_Act, cs = c_T_hindcastlaw26_Act x ∧ ActOk x := by
  obtain ⟨hl, hf⟩ := rd_struct h rfl
  match cs, hl with
  | [a, b, c, d], _ =>
    obtain ⟨x, rfl, wx⟩ := rd_cell (hf (5, 0) (by simp)) rfl
    obtain ⟨y, rfl, wy⟩ := rd_cell (hf (22, 1) (by simp)) rfl
    obtain ⟨u, rfl, wu⟩ := rd_cell (hf (40, 2) (by simp)) rfl
    have h3 : Rdw TT w (m + 1) 4 [d] := hf (4, 3) (by simp)
    obtain ⟨z, hz⟩ := rd_bool' h3 rfl
    obtain rfl : d = .bool z := (List.cons.inj hz).1
    exact ⟨⟨x, y, u, z⟩, rfl, ⟨wf_u64 wy, wf_u8 wu⟩⟩

theorem setup_rd {W : World} {m : Nat} {cs : List Value} (h : Rdw TT W (m + 5) 32 cs) :
    ∃ (p : T_hindcastlaw26_Setup) (a : Option Addr) (n cap : Nat), cs = [.int .u64 p.S.Frame, .int .u64 p.S.Seed, .int .i32 p.S.Players.1.X, .int .i32 p.S.Players.1.Y, .int .i32 p.S.Players.1.VX, .int .i32 p.S.Players.1.VY, .int .u8 p.S.Players.1.Health, .int .u8 p.S.Players.1.Cool, .int .u8 p.S.Players.1.Face, .int .i32 p.S.Players.2.X, .int .i32 p.S.Players.2.Y, .int .i32 p.S.Players.2.VX, .int .i32 p.S.Players.2.VY, .int .u8 p.S.Players.2.Health, .int .u8 p.S.Players.2.Cool, .int .u8 p.S.Players.2.Face, .slice a n cap, .int .u16 p.S.Score.1, .int .u16 p.S.Score.2, .int .u8 p.Player, .int .i64 p.Window] ∧
      n = p.S.Shots.length ∧ n ≤ cap ∧ Rds W [] [] a (flat c_T_api_Shot p.S.Shots) ∧ StOk p.S ∧ 0 ≤ p.Player := by
  obtain ⟨hl, hf⟩ := rd_struct h rfl
  match cs, hl with
  | [c1, c2, c3, c4, c5, c6, c7, c8, c9, c10, c11, c12, c13, c14, c15, c16, c17, c18, c19, v1, v2], _ =>
    have hS : Rdw TT W (m + 4) 30 [c1, c2, c3, c4, c5, c6, c7, c8, c9, c10, c11, c12, c13, c14, c15, c16, c17, c18, c19] := hf (30, 0) (by simp)
    obtain ⟨u, rfl, wu⟩ := rd_cell (hf (5, 19) (by simp)) rfl
    obtain ⟨z, rfl, wz⟩ := rd_cell (hf (3, 20) (by simp)) rfl
    obtain ⟨s, a, n, cap, hc, hn, hcap, hr, hok⟩ := state_rd hS
    refine ⟨⟨s, u, z⟩, a, n, cap, ?_, hn, hcap, hr, hok, (wf_u8 wu).1⟩
    simp only [List.cons.injEq, and_true] at hc
    obtain ⟨rfl, rfl, rfl, rfl, rfl, rfl, rfl, rfl, rfl, rfl, rfl, rfl, rfl, rfl, rfl, rfl, rfl, rfl, rfl⟩ := hc
    rfl

theorem rollbackPlays_walk (W : World) (hG : Rds W [] [] (some ⟨0, 0, none⟩) (flat (fun _ : Unit => gl_state_playerBounds) [()]) ∧ Rds W [] [] (some ⟨1, 0, none⟩) (flat (fun _ : Unit => gl_state_shotBounds) [()]))
    (c0 : List Value) (v1 : Value) (R0 : Rdw TT W 8 32 c0) (R1 : Rdw TT W 8 33 [v1]) :
    Calls Tryz.prog 3 #[.agg c0.toArray, v1] W fun e w' => e = .returned (.bool true) ∧ Inv W [] w' [] := by
  obtain ⟨p, a0, n0, cap0, rfl, hn0, hc0, hr0, so, hp⟩ := setup_rd R0
  obtain ⟨a, n, cap, xs, rfl, hn, hc, _, hr, hok⟩ := rd_list (enc := c_T_hindcastlaw26_Act) (ok := ActOk) R1 rfl rfl c_T_hindcastlaw26_Act_len (fun es _ h => act_rd h)
  exact (k_hindcastlaw26_RollbackPlays hn0 hc0 hn hc (plays_pure (F := 1010) (by omega) plays_works so hp hok)).run W ⟨hr0, hr, hG⟩

noncomputable def rollbackPlays_world (os : Os) : World :=
  { World.holding Tryz.prog os ⟨#[], #[], []⟩ with heap := ((World.holding Tryz.prog os ⟨#[], #[], []⟩).heap.modify 0 fun | .cells _ t frozen => .cells gl_state_playerBounds.toArray t frozen | o => o).modify 1 fun | .cells _ t frozen => .cells gl_state_shotBounds.toArray t frozen | o => o }
theorem rollbackPlays_laid_met (os : Os) : laidMet Tryz.prog Rows.rollbackPlaysRow.laid ((rollbackPlays_world os).forCall (fun _ _ => 0) ⟨#[], #[.agg #[(.int .u64 0), (.int .u64 0), (.int .i32 0), (.int .i32 0), (.int .i32 0), (.int .i32 0), (.int .u8 0), (.int .u8 0), (.int .u8 0), (.int .i32 0), (.int .i32 0), (.int .i32 0), (.int .i32 0), (.int .u8 0), (.int .u8 0), (.int .u8 0), (.slice none 0 0), (.int .u16 0), (.int .u16 0), (.int .u8 0), (.int .i64 0)], .slice none 0 0], []⟩).memory := laidMet_of_run' 8 (by kernel_rfl) (by kernel_rfl)
theorem rollbackPlays_reads (os : Os) {H : Type} (enc : TypeId × Value → H) : ∃ places, DataW.whole enc Tryz.prog ((rollbackPlays_world os).forCall (fun _ _ => 0) ⟨#[], #[.agg #[(.int .u64 0), (.int .u64 0), (.int .i32 0), (.int .i32 0), (.int .i32 0), (.int .i32 0), (.int .u8 0), (.int .u8 0), (.int .u8 0), (.int .i32 0), (.int .i32 0), (.int .i32 0), (.int .i32 0), (.int .u8 0), (.int .u8 0), (.int .u8 0), (.slice none 0 0), (.int .u16 0), (.int .u16 0), (.int .u8 0), (.int .i64 0)], .slice none 0 0], []⟩).memory Tryz.f3.params.toList Rows.rollbackPlaysSpec.vars false (#[.agg #[(.int .u64 0), (.int .u64 0), (.int .i32 0), (.int .i32 0), (.int .i32 0), (.int .i32 0), (.int .u8 0), (.int .u8 0), (.int .u8 0), (.int .i32 0), (.int .i32 0), (.int .i32 0), (.int .i32 0), (.int .u8 0), (.int .u8 0), (.int .u8 0), (.slice none 0 0), (.int .u16 0), (.int .u16 0), (.int .u8 0), (.int .i64 0)], .slice none 0 0] : Array Value).toList 8 = some ([.agg [.agg [.lit (.int .u64 0), .lit (.int .u64 0), .agg [.agg [.lit (.int .i32 0), .lit (.int .i32 0), .lit (.int .i32 0), .lit (.int .i32 0), .lit (.int .u8 0), .lit (.int .u8 0), .lit (.int .u8 0)], .agg [.lit (.int .i32 0), .lit (.int .i32 0), .lit (.int .i32 0), .lit (.int .i32 0), .lit (.int .u8 0), .lit (.int .u8 0), .lit (.int .u8 0)]], .nil, .agg [.lit (.int .u16 0), .lit (.int .u16 0)]], .lit (.int .u8 0), .lit (.int .i64 0)], .nil], [], places) := ⟨[], by kernel_rfl⟩
set_option maxRecDepth 100000 in
theorem rollbackPlays_lifted (os : Os) (started : os.Started) (H : Type) (enc : TypeId × Value → H) (F : Stop.Interp) :
    ReturnsInHanded {} Tryz.checked os 3 .any ((OpenSpec.ofChange Rows.rollbackPlaysSpec).preRow enc Tryz.prog Tryz.f3 Rows.rollbackPlaysRow.domain false Rows.rollbackPlaysRow.laid) (((OpenSpec.ofChange Rows.rollbackPlaysSpec).at F).post enc Tryz.prog Tryz.f3 false true false false) := by
  obtain ⟨places, hx⟩ := rollbackPlays_reads os enc
  refine returnsInHanded_of_row (C := Tryz.checked) (s := OpenSpec.ofChange Rows.rollbackPlaysSpec) (by kernel_rfl) started (by kernel_rfl) Tryz.func3
    (witness_row_at (enc := enc) (C := Tryz.checked) false (rollbackPlays_world os) #[.agg #[(.int .u64 0), (.int .u64 0), (.int .i32 0), (.int .i32 0), (.int .i32 0), (.int .i32 0), (.int .u8 0), (.int .u8 0), (.int .u8 0), (.int .i32 0), (.int .i32 0), (.int .i32 0), (.int .i32 0), (.int .u8 0), (.int .u8 0), (.int .u8 0), (.slice none 0 0), (.int .u16 0), (.int .u16 0), (.int .u8 0), (.int .i64 0)], .slice none 0 0] rfl (by kernel_rfl) (by kernel_rfl) (by kernel_rfl)
      (OpenSpec.preRow_of_cond 8 hx (by kernel_rfl) (fun k hk => by cases hk) (by kernel_rfl) (rollbackPlays_laid_met os))) ?_
  intro W base args ds gs before hval0 hW hcnd hk0 hsz0 hL _ _
  have hG := laid_cells hL
  have hval : ∀ (j : Nat) t v, Tryz.f3.params[j]? = some t → args[j]? = some v → Value.okWide Tryz.prog W .any base t v := hval0
  have hW' := hW
  obtain ⟨p, q, hA0, hV, rfl, hfz, hnd⟩ := hW
  have hA : DataW.TrodAll enc Tryz.prog W 0 (fun _ => true) true Tryz.f3.params.toList args.toList ds p := hA0
  obtain ⟨rfl, rfl⟩ := trodVars_none hV
  have hsz : ∀ x ∈ DataW.weightsEach Tryz.prog Tryz.f3.params.toList ds, x ≤ maxB := by
    have h1 : (DataW.weightsEach Tryz.prog (Tryz.f3.params.toList ++ []) (ds ++ [])).all (· ≤ reachBytes) = true := hsz0
    simp only [List.append_nil] at h1
    intro x hx; have h2 := List.all_eq_true.1 h1 x hx; simp only [decide_eq_true_eq] at h2; exact h2
  rw [Tryz.params3] at hA hval hsz
  have hR := rdw_all tt_ok ctt_ok (closed_of tt_closed) (fun _ => rfl) 8 hA hsz
  have hback := fun (W2 : World) (hb : Below W.heap.size W W2) => trodAll_below (by kernel_rfl : laidOutB Tryz.prog = true) hb (by kernel_rfl) hA
  obtain ⟨v0, vs0, d0, ds0, p0, q0, hargs, rfl, rfl, h0, r0⟩ := trodAll_cons hA
  obtain ⟨v1, vs1, d1, ds1, p1, q1, rfl, rfl, rfl, h1, r1⟩ := trodAll_cons r0
  obtain ⟨rfl, rfl, rfl⟩ := trodAll_nil r1
  obtain rfl : args = #[v0, v1] := by cases args; simp_all
  have R0 := hR 0 32 v0 rfl rfl
  have e0 := val_agg tt_ok (t := 32) rfl rfl (hval 0 32 v0 rfl rfl)
  generalize v0.cells.toList = c0 at e0 R0
  subst e0
  have R1 := hR 1 33 v1 rfl rfl
  have e1 := val_one tt_ok (t := 33) rfl (by intro h; cases h) rfl (hval 1 33 v1 rfl rfl)
  rw [e1] at R1
  clear hval hval0 hsz hsz0 hR hA0
  refine (rollbackPlays_walk W hG c0 v1 R0 R1).mono fun e W2 ⟨he, hI⟩ => ?_
  subst he
  exact ⟨_, rfl, _, _, _, [], _, [], hW', trodAll_mk1 (shut_bool Tryz.underlying4 _), hback _ (below_of_inv hI), rfl, (below_of_inv hI).frame _, fun h => by cases h⟩

theorem rollbackPlays_said : Rows.RollbackPlaysSaid :=
  OpenClaim.holds_of_cond 3 Tryz.f3 rfl rfl rfl rfl rfl rfl rfl ⟨rfl, rfl, rfl, rfl, rfl⟩ rfl rfl rfl rfl rfl (by kernel_rfl) Tryz.func3 (by kernel_rfl)
    (of_decide_eq_true (by kernel_rfl)) (by unfold Func.isWrapper; first | (rw [if_pos (by decide +kernel)]; kernel_rfl) | (rw [if_neg (by decide +kernel)]; exact ⟨rfl, rfl⟩))
    (fun os started H enc _ F => by rw [OpenClaim.pre_eq_preRow]; exact rollbackPlays_lifted os started H enc F)

theorem rollbackPlays_plain (f : FuncId) (fn : Func) (hf : Tryz.pinned.checked.prog.funcNamed "hindcast/hindcastlaw26.RollbackPlays" = some f) (hfn : Tryz.pinned.checked.prog.funcs[f]? = some fn) :
    false = Tryz.pinned.checked.prog.looks [] ∧ ∀ (j : Nat) t, fn.params[j]? = some t → Tryz.pinned.checked.prog.wantsStandIn t = false := by
  obtain rfl : f = 3 := Option.some.inj ((show Tryz.prog.funcNamed "hindcast/hindcastlaw26.RollbackPlays" = some 3 by kernel_rfl).symm.trans hf) |>.symm
  obtain rfl : fn = Tryz.f3 := (Option.some.inj (Tryz.func3.symm.trans hfn)).symm
  refine ⟨by kernel_rfl, fun j t ht => ?_⟩
  rw [Tryz.params3] at ht
  have hm : t ∈ [32, 33] := by simpa using Array.mem_of_getElem? ht
  have hall : ([32, 33].all fun u => !Tryz.prog.wantsStandIn u) = true := by kernel_rfl
  exact (show Tryz.prog.wantsStandIn t = false by simpa using List.all_eq_true.1 hall t hm)

theorem rollbackPlays_holds : Rows.RollbackPlaysCardSaid :=
  Claim7.holds_tied_plain_at .later [] _ _ _ _ rollbackPlays_said (fun _ h => by cases h) (by kernel_rfl) (fun _ h => by cases h) rollbackPlays_row_tie rfl ⟨rfl, rfl⟩ (by kernel_rfl) rfl rollbackPlays_plain (by kernel_rfl)

end Go.Proofs.YtkekgagekgadmaaGreatDoor
