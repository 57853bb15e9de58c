/-
  The document's engine (chapter 26) beside the program's: whatever is done with both, they answer the same.
-/
import Derived.Test.YtkdbpenjkcjimaaGreatDoorRollPure
import Derived.Test.YtkdbpenjkcjimaaGreatDoorStepFive
namespace Go.Proofs.YtkdbpenjkcjimaaGreatDoor
open Go.Proofs.YtkdbpenjkcjimaaGreatDoor.Eng Go.RowKit Go.ChangeShapes Go.WideShapes Go.ChangeAt
set_option linter.unusedSimpArgs false
set_option linter.unusedVariables false
set_option maxHeartbeats 2000000
set_option maxRecDepth 20000

variable {F : Nat}

theorem i64_s {j : Nat} (h : j ≤ 1000000) : IntKind.wrap .i64 ((j : Int) + 1) = ((j + 1 : Nat) : Int) := by rw [wr_i64 ⟨by omega, by omega⟩]; omega

/-! ### The document's engine -/
def refE (x : T_rollback_Engine) : T_hindcastref26_Engine := ⟨x.player, x.window, x.sure, x.own⟩
structure NN (x : T_rollback_Engine) (L : List Int) : Prop where
  o : ∀ o ∈ x.own, 0 ≤ o
  l : ∀ o ∈ L, 0 ≤ o
theorem gs_nn {L : List Int} (h : ∀ o ∈ L, 0 ≤ o) (j : Nat) : 0 ≤ gs L j := by
  unfold gs
  split
  · rename_i hj
    rw [List.getD_eq_getElem?_getD, List.getElem?_eq_getElem hj]
    exact h _ (List.getElem_mem hj)
  · cases hl : L.getLast? with
    | none => exact Int.le_refl 0
    | some x =>
      obtain ⟨ys, rfl⟩ := List.getLast?_eq_some_iff.1 hl
      exact h x (by simp)
theorem pr_in {pl a c : Int} (ha : 0 ≤ a ∧ a ≤ 255) (hc : 0 ≤ c ∧ c ≤ 255) : (0 ≤ (pr pl a c).1 ∧ (pr pl a c).1 ≤ 255) ∧ (0 ≤ (pr pl a c).2 ∧ (pr pl a c).2 ≤ 255) := by
  unfold pr
  split
  · exact ⟨ha, hc⟩
  · exact ⟨hc, ha⟩

section
variable {x : T_rollback_Engine} {q : T_queue_Queue} {r : T_ring_Ring} {b k : Nat} {L : List Int}
theorem pr_ok (H : EI x q r b k L) (N : NN x L) {m : Nat} {o : Int} (ho : x.own[m]? = some o) : (0 ≤ (pr x.player o (gs L (k + m))).1 ∧ (pr x.player o (gs L (k + m))).1 ≤ 255) ∧ (0 ≤ (pr x.player o (gs L (k + m))).2 ∧ (pr x.player o (gs L (k + m))).2 ≤ 255) := by
  have h1 := H.ol o (List.mem_of_getElem? ho)
  have h2 := N.o o (List.mem_of_getElem? ho)
  have h3 := gs_lt H.ll (k + m)
  have h4 := gs_nn N.l (k + m)
  exact pr_in ⟨h2, by omega⟩ ⟨h4, by omega⟩
theorem rT_of (H : EI x q r b k L) (p : T_hindcastref24_Queue) : m_hindcastref26_Engine_T F (refE x) p = some (x.sure.Frame + (x.own.length : Int)) := by
  have := H.fr; have := H.hb; have := H.hl; have := H.hk; have := H.ow; have := H.w; have := H.so.1
  unfold m_hindcastref26_Engine_T refE
  simp only
  rw [wr_u64 (x := (x.own.length : Int)) ⟨by omega, by omega⟩, wr_u64 ⟨by omega, by omega⟩]
theorem rpair_of (H : EI x q r b k L) {m : Nat} {o : Int} (ho : x.own[m]? = some o) : m_hindcastref26_Engine_pair F (refE x) (rOf b k L) (x.sure.Frame + (m : Int)) = some (pr x.player o (gs L (k + m))) := by
  have hm := (List.getElem?_eq_some_iff.1 ho).1
  have h1 := H.fr; have := H.hb; have := H.hl; have := H.hk; have := H.ow; have := H.w; have := H.so.1
  unfold m_hindcastref26_Engine_pair refE
  simp only
  have w1 : IntKind.wrap .u64 (x.sure.Frame + (m : Int) - x.sure.Frame) = (m : Int) := by rw [wr_u64 ⟨by omega, by omega⟩]; omega
  have hg : m_hindcastref24_Queue_Guess F (rOf b k L) (x.sure.Frame + (m : Int)) = some (gs L (k + m)) := by
    rw [show x.sure.Frame + (m : Int) = ((b + k + m : Nat) : Int) by omega, guess_r H.qo (by omega), guess_gs (by omega), show b + k + m - b = k + m by omega]
  rw [w1, getI_nat, ho]
  simp only [Option.bind_some, hg]
  rcases H.pl with h | h <;> rw [h] <;> rfl

theorem rshown_loop (H : EI x q r b k L) (N : NN x L) (hF : 1010 ≤ F) : ∀ (g m : Nat), x.own.length - m < g → m ≤ x.own.length →
    m_hindcastref26_Engine_Shown_L8 F (refE x) (rOf b k L) g (x.sure.Frame + (m : Int)) (shw x.sure x.player L k x.own m).Frame (shw x.sure x.player L k x.own m).Seed (shw x.sure x.player L k x.own m).Players (shw x.sure x.player L k x.own m).Shots (shw x.sure x.player L k x.own m).Score =
      some ((shw x.sure x.player L k x.own x.own.length).Frame, (shw x.sure x.player L k x.own x.own.length).Seed, (shw x.sure x.player L k x.own x.own.length).Players, (shw x.sure x.player L k x.own x.own.length).Shots, (shw x.sure x.player L k x.own x.own.length).Score)
  | 0, m, h, _ => by omega
  | g + 1, m, h, hm => by
    have := H.fr; have := H.hb; have := H.hl; have := H.hk; have := H.ow; have := H.w; have := H.so.1
    rw [m_hindcastref26_Engine_Shown_L8.eq_2, rT_of H]
    simp only [Option.bind_some]
    by_cases hlt : m < x.own.length
    · have hx : x.own[m]? = some x.own[m] := List.getElem?_eq_getElem hlt
      obtain ⟨f1, f2, f3⟩ := H.fs.f m hm
      obtain ⟨p1, p2⟩ := pr_ok H N hx
      have hst : m_hindcastref09_Step F (shw x.sure x.player L k x.own m) (pr x.player x.own[m] (gs L (k + m))) = some (shw x.sure x.player L k x.own (m + 1)) := by
        rw [shw_next hx]
        exact rstep_of f2 (by have := stGood_leI f3; omega) (by omega) p1 p2
      have hst' : m_hindcastref09_Step F (T_api_State.mk (shw x.sure x.player L k x.own m).Frame (shw x.sure x.player L k x.own m).Seed (shw x.sure x.player L k x.own m).Players (shw x.sure x.player L k x.own m).Shots (shw x.sure x.player L k x.own m).Score) (pr x.player x.own[m] (gs L (k + m))) = _ := hst
      have w1 : IntKind.wrap .u64 (x.sure.Frame + (m : Int) + 1) = x.sure.Frame + ((m + 1 : Nat) : Int) := by rw [wr_u64 ⟨by omega, by omega⟩]; omega
      rw [decide_eq_true (show x.sure.Frame + (m : Int) < x.sure.Frame + (x.own.length : Int) by omega), cond_true]
      simp only [rpair_of (F := F) H hx, Option.bind_some, hst', w1]
      exact rshown_loop H N hF g (m + 1) (by omega) hlt
    · obtain rfl : m = x.own.length := by omega
      rw [decide_eq_false (show ¬ x.sure.Frame + (x.own.length : Int) < x.sure.Frame + (x.own.length : Int) by omega), cond_false]
theorem rshown_of (H : EI x q r b k L) (N : NN x L) (hF : 1010 ≤ F) : m_hindcastref26_Engine_Shown F (refE x) (rOf b k L) = some (shw x.sure x.player L k x.own x.own.length) := by
  have := H.ow; have := H.w
  have h0 := rshown_loop (F := F) H N hF F 0 (by omega) (by omega)
  rw [show x.sure.Frame + ((0 : Nat) : Int) = x.sure.Frame by simp, shw_zero] at h0
  unfold m_hindcastref26_Engine_Shown
  have hc := rcopy_of (F := F) (s := x.sure) (by have := stGood_leI H.sg; omega)
  have hc' : m_hindcastref08_Copy F (refE x).Sure = some x.sure := hc
  have h0' : m_hindcastref26_Engine_Shown_L8 F (refE x) (rOf b k L) F (refE x).Sure.Frame x.sure.Frame x.sure.Seed x.sure.Players x.sure.Shots x.sure.Score = _ := h0
  rw [hc']
  simp only [Option.bind_some, h0']

theorem rat_k (H : EI x q r b k L) : m_hindcastref24_Queue_At F (rOf b k L) x.sure.Frame = some (atv b k L (b + k)) := by
  have := H.hb; have := H.hl; have := H.hk
  rw [H.fr]
  exact at_r H.qo (by omega)
theorem atv_k : (atv b k L (b + k)).2 = decide (k < L.length) := by
  unfold atv
  by_cases h : k < L.length
  · rw [if_neg (by omega), decide_eq_true h]
  · rw [if_pos (by omega), decide_eq_false h]
theorem rnext_yes (H : EI x q r b k L) {o : Int} {os : List Int} (ho : x.own = o :: os) (hk : k < L.length) : m_hindcastref26_Engine_Next F (refE x) (rOf b k L) = some (pr x.player o (gs L k), true) := by
  have hp := rpair_of (F := F) H (m := 0) (o := o) (by rw [ho]; rfl)
  rw [show x.sure.Frame + ((0 : Nat) : Int) = x.sure.Frame by simp, Nat.add_zero] at hp
  have hp' : m_hindcastref26_Engine_pair F (refE x) (rOf b k L) (refE x).Sure.Frame = _ := hp
  have ha : m_hindcastref24_Queue_At F (rOf b k L) (refE x).Sure.Frame = _ := rat_k H
  have hl0 : (((refE x).Own.length : Int) == 0) = false := by show ((x.own.length : Int) == 0) = false; rw [ho]; simp; omega
  unfold m_hindcastref26_Engine_Next
  rw [ha]
  simp only [Option.bind_some, hl0, cond_false, atv_k, decide_eq_true hk, Bool.not_true, hp']
theorem rnext_no (H : EI x q r b k L) (h : x.own = [] ∨ L.length = k) : m_hindcastref26_Engine_Next F (refE x) (rOf b k L) = some ((0, 0), false) := by
  have ha : m_hindcastref24_Queue_At F (rOf b k L) (refE x).Sure.Frame = _ := rat_k H
  unfold m_hindcastref26_Engine_Next
  rw [ha]
  by_cases h0 : x.own = []
  · have hl0 : (((refE x).Own.length : Int) == 0) = true := by show ((x.own.length : Int) == 0) = true; rw [h0]; rfl
    simp only [Option.bind_some, hl0, cond_true]
  · have hl0 : (((refE x).Own.length : Int) == 0) = false := by
      have := List.length_pos_iff.2 h0
      show ((x.own.length : Int) == 0) = false
      simp; omega
    simp only [Option.bind_some, hl0, cond_false, atv_k, decide_eq_false (show ¬ k < L.length by have := h.resolve_left h0; omega), Bool.not_false, cond_true]
theorem rconfirm_no (H : EI x q r b k L) {f : Int} (h : x.own = [] ∨ L.length = k ∨ f ≤ x.sure.Frame) : m_hindcastref26_Engine_Confirm F (refE x) (rOf b k L) f = some (refE x, rOf b k L, (0, 0), false) := by
  unfold m_hindcastref26_Engine_Confirm
  have hd : ∀ v : Bool, (cond (decide (f ≤ (refE x).Sure.Frame)) (some true) (some v)) = some (decide (f ≤ x.sure.Frame) || v) := fun v => r_or _ _
  by_cases h0 : x.own = [] ∨ L.length = k
  · rw [rnext_no H h0]
    simp only [Option.bind_some, hd, Bool.not_false, Bool.or_true, cond_true]
  · have hf : f ≤ x.sure.Frame := by
      rcases h with h | h | h
      · exact absurd (.inl h) h0
      · exact absurd (.inr h) h0
      · exact h
    obtain ⟨o, os, ho⟩ : ∃ o os, x.own = o :: os := by
      cases hx : x.own with
      | nil => exact absurd (.inl hx) h0
      | cons o os => exact ⟨o, os, rfl⟩
    have hk : k < L.length := by
      have := H.hk
      rcases Nat.lt_or_ge k L.length with h | h
      · exact h
      · exact absurd (.inr (by omega)) h0
    rw [rnext_yes H ho hk]
    simp only [Option.bind_some, hd, decide_eq_true hf, Bool.true_or, cond_true]
theorem rconfirm_yes (H : EI x q r b k L) (N : NN x L) (hF : 1010 ≤ F) {f : Int} {o : Int} {os : List Int} (ho : x.own = o :: os) (hk : k < L.length) (hf : x.sure.Frame < f) :
    m_hindcastref26_Engine_Confirm F (refE x) (rOf b k L) f = some (refE ⟨x.player, x.window, shw x.sure x.player L k x.own 1, os⟩, rOf b (k + 1) L, pr x.player o (gs L k), true) := by
  have hfr := H.fr
  have hlen : x.own.length = os.length + 1 := by rw [ho]; rfl
  obtain ⟨f1, f2, f3⟩ := H.fs.f 1 (by omega)
  obtain ⟨p1, p2⟩ := pr_ok H N (m := 0) (o := o) (by rw [ho]; rfl)
  rw [Nat.add_zero] at p1 p2
  have hst : m_hindcastref09_Step F (refE x).Sure (pr x.player o (gs L k)) = some (shw x.sure x.player L k x.own 1) := by
    rw [show (1 : Nat) = 0 + 1 from rfl, shw_next (o := o) (by rw [ho]; rfl)]
    exact rstep_of H.so (by have := stGood_leI H.sg; show x.sure.Shots.length ≤ 100; omega) (by omega) p1 p2
  have how := H.ow; have hw := H.w
  have hcut : cutI (refE x).Own 1 ((refE x).Own.length : Int) = some os := cutI_of (i := 1) (j := x.own.length) rfl rfl (by omega) (Nat.le_refl _) (by show os = (x.own.take x.own.length).drop 1; rw [List.take_length, ho]; rfl)
  have hdrop : m_hindcastref24_Queue_Drop F (rOf b k L) (shw x.sure x.player L k x.own 1).Frame = some (rOf b (k + 1) L) := by
    rw [f1, show x.sure.Frame + ((1 : Nat) : Int) = ((b + k + 1 : Nat) : Int) by omega, drop_r H.qo]
    have : dropv b k L (b + k + 1) = k + 1 := by
      unfold dropv
      rw [if_neg (by omega), Nat.min_eq_left (by omega)]
      omega
    rw [this]
  have hd : (decide (f ≤ (refE x).Sure.Frame)) = false := decide_eq_false (show ¬ f ≤ x.sure.Frame by omega)
  unfold m_hindcastref26_Engine_Confirm
  rw [rnext_yes H ho hk]
  simp only [Option.bind_some, hd, cond_false, Bool.not_true, hst, hcut, hdrop]
  rfl

theorem isame_loop {l : List Int} (hl : l.length ≤ 1000) : ∀ (m i : Nat), l.length - i < m → i ≤ l.length → m_hindcastref06_Same_L14 F l l m (i : Int) = some (.inl false)
  | 0, i, h, _ => by omega
  | m + 1, i, h, hi => by
    rw [m_hindcastref06_Same_L14.eq_2]
    by_cases h1 : i < l.length
    · rw [decide_eq_true (show (i : Int) < (l.length : Int) by omega), cond_true]
      simp only [getI_nat, List.getElem?_eq_getElem h1, Option.bind_some, bne_self_eq_false, cond_false, i64_s (show i ≤ 1000000 by omega)]
      exact isame_loop hl m (i + 1) (by omega) (by omega)
    · rw [decide_eq_false (show ¬ (i : Int) < (l.length : Int) by omega), cond_false]
theorem isame_self {l : List Int} (hF : 1010 ≤ F) (hl : l.length ≤ 1000) : m_hindcastref06_Same F l l = some true := by
  have := isame_loop (F := F) hl F 0 (by omega) (by omega)
  rw [show ((0 : Nat) : Int) = 0 from rfl] at this
  unfold m_hindcastref06_Same
  simp only [bne_self_eq_false, cond_false, this, Option.bind_some, orE_l]
theorem ssame_self {s : T_api_State} (hF : 1010 ≤ F) (h : s.Shots.length ≤ 1000) : m_hindcastref08_Same F s s = some true := by
  rw [rsame_of (by omega) (by omega), stE_refl]

theorem local_both (H : EI x q r b k L) (N : NN x L) {i : Int} (hi0 : 0 ≤ i) : ∃ x1 e, m_rollback_Engine_Local F x q r i = some (x1, e) ∧ m_hindcastref26_Engine_Local F (refE x) (rOf b k L) i = some (refE x1, e) ∧ EI x1 q r b k L ∧ NN x1 L := by
  by_cases hi64 : i < 64
  · by_cases hfl : (x.own.length : Int) < x.window
    · obtain ⟨e1, H1⟩ := local_ok (F := F) H hi64 hfl
      refine ⟨_, _, e1, ?_, H1, ⟨?_, N.l⟩⟩
      · have how := H.ow; have hw := H.w
        unfold m_hindcastref26_Engine_Local
        have hap : appI (refE x).Own [i] = some (x.own ++ [i]) := appI_of (by show x.own.length + _ ≤ _; simp; omega)
        rw [decide_eq_false (show ¬ (64 : Int) ≤ i by omega), cond_false, decide_eq_false (show ¬ (refE x).Window ≤ ((refE x).Own.length : Int) from by show ¬ x.window ≤ (x.own.length : Int); omega), cond_false, hap]
        rfl
      · intro o ho
        rcases List.mem_append.1 ho with h | h
        · exact N.o o h
        · rw [List.mem_singleton.1 h]; exact hi0
    · refine ⟨_, _, local_full x q r hi64 (by omega), ?_, H, N⟩
      unfold m_hindcastref26_Engine_Local
      rw [decide_eq_false (show ¬ (64 : Int) ≤ i by omega), cond_false, decide_eq_true (show (refE x).Window ≤ ((refE x).Own.length : Int) from by show x.window ≤ (x.own.length : Int); omega), cond_true]
  · refine ⟨_, _, local_bad x q r hi64, ?_, H, N⟩
    unfold m_hindcastref26_Engine_Local
    rw [decide_eq_true (show (64 : Int) ≤ i by omega), cond_true]

theorem remote_both (H : EI x q r b k L) (N : NN x L) (hF : 1010 ≤ F) (hL : L.length < 1000) {f i : Int} (hf : 0 ≤ f ∧ f ≤ 18446744073709551615) (hi : 0 ≤ i) :
    ∃ q1 r1 L1 e, m_rollback_Engine_Remote F x q r f i = some (q1, r1, e) ∧ m_hindcastref26_Engine_Remote F (refE x) (rOf b k L) f i = some (rOf b k L1, e) ∧ EI x q1 r1 b k L1 ∧ NN x L1 ∧ L1.length ≤ L.length + 1 := by
  obtain ⟨p, rfl⟩ := Int.eq_ofNat_of_zero_le hf.1
  obtain ⟨r1, e1, H1⟩ := remote_of (F := F) H hF hL p i
  refine ⟨_, r1, _, _, e1, ?_, H1, ⟨N.o, ?_⟩, (addv_ok (p := p) (i := i) H.qo (by omega)).2⟩
  · unfold m_hindcastref26_Engine_Remote
    rw [add_r H.qo (by omega)]
    rfl
  · rcases addv_cases b k L p i with h | ⟨h, _⟩
    · rw [h]; exact N.l
    · rw [h]
      intro o ho
      rcases List.mem_append.1 ho with h | h
      · exact N.l o h
      · rw [List.mem_singleton.1 h]; exact hi

theorem confirm_both (H : EI x q r b k L) (N : NN x L) (hF : 1010 ≤ F) (f : Int) :
    ∃ x1 q1 r1 k1 v is, m_rollback_Engine_Confirm F x q r f = some (x1, q1, r1, v, is) ∧ m_hindcastref26_Engine_Confirm F (refE x) (rOf b k L) f = some (refE x1, rOf b k1 L, v, is) ∧ EI x1 q1 r1 b k1 L ∧ NN x1 L := by
  by_cases hno : x.own = [] ∨ L.length = k ∨ f ≤ x.sure.Frame
  · exact ⟨_, _, _, _, _, _, confirm_no H hno, rconfirm_no H hno, H, N⟩
  · obtain ⟨o, os, ho⟩ : ∃ o os, x.own = o :: os := by
      cases hx : x.own with
      | nil => exact absurd (.inl hx) hno
      | cons o os => exact ⟨o, os, rfl⟩
    have hk : k < L.length := by
      have := H.hk
      rcases Nat.lt_or_ge k L.length with h | h
      · exact h
      · exact absurd (.inr (.inl (by omega))) hno
    have hlt : x.sure.Frame < f := by
      rcases Int.lt_or_le x.sure.Frame f with h | h
      · exact h
      · exact absurd (.inr (.inr h)) hno
    obtain ⟨r4, e4, H4⟩ := confirm_yes (F := F) H hF ho hk hlt
    exact ⟨_, _, _, _, _, _, e4, rconfirm_yes H N hF ho hk hlt, H4, ⟨fun o' h' => N.o o' (by rw [ho]; exact List.mem_cons_of_mem _ h'), N.l⟩⟩

theorem next_both (H : EI x q r b k L) : ∃ v is, m_rollback_Engine_Next F x q r = some (v, is) ∧ m_hindcastref26_Engine_Next F (refE x) (rOf b k L) = some (v, is) := by
  by_cases h0 : x.own = [] ∨ L.length = k
  · exact ⟨_, _, next_no H h0, rnext_no H h0⟩
  · obtain ⟨o, os, ho⟩ : ∃ o os, x.own = o :: os := by
      cases hx : x.own with
      | nil => exact absurd (.inl hx) h0
      | cons o os => exact ⟨o, os, rfl⟩
    have hk : k < L.length := by
      have := H.hk
      rcases Nat.lt_or_ge k L.length with h | h
      · exact h
      · exact absurd (.inr (by omega)) h0
    exact ⟨_, _, next_yes H ho hk, rnext_yes H ho hk⟩
end

end Go.Proofs.YtkdbpenjkcjimaaGreatDoor
