/-
  Chapter 26: what an engine that rolls back holds: a queue of the other one's inputs, and a ring of states that are as they are foretold now.
-/
import Derived.Test.YtkdbpenjkcjimaaGreatDoorQueuePure
import Derived.Test.YtkdbpenjkcjimaaGreatDoorRingPure
import Derived.Test.YtkdbpenjkcjimaaGreatDoorFoldPure
namespace Go.Proofs.YtkdbpenjkcjimaaGreatDoor
open Go.Proofs.YtkdbpenjkcjimaaGreatDoor.Eng Go.RowKit Go.ChangeShapes Go.WideShapes Go.ChangeAt
set_option linter.unusedSimpArgs false
set_option linter.unusedVariables false
set_option maxHeartbeats 2000000
set_option maxRecDepth 20000

variable {F : Nat}

/-! ### What is foretold -/
def pr (pl a c : Int) : Int × Int := if pl = 0 then (a, c) else (c, a)
def gs (L : List Int) (j : Nat) : Int := if j < L.length then L.getD j 0 else L.getLast?.getD 0
def prs (pl : Int) (L : List Int) : Nat → List Int → List (Int × Int)
  | _, [] => []
  | k, o :: own => pr pl o (gs L k) :: prs pl L (k + 1) own
def shw (s : T_api_State) (pl : Int) (L : List Int) (k : Nat) (own : List Int) (m : Nat) : T_api_State := foldv s ((prs pl L k own).take m)

theorem gs_lt {L : List Int} (h : ∀ o ∈ L, o < 64) (j : Nat) : gs L j < 64 := by
  unfold gs
  split
  · rename_i hj
    rw [List.getD_eq_getElem?_getD, List.getElem?_eq_getElem hj]
    exact h _ (List.getElem_mem hj)
  · cases hl : L.getLast? with
    | none => show (0 : Int) < 64; omega
    | some x =>
      obtain ⟨ys, rfl⟩ := List.getLast?_eq_some_iff.1 hl
      exact h x (by simp)
theorem gs_app {L : List Int} {i : Int} {j : Nat} (h : j < L.length ∨ gs L L.length = i) : gs (L ++ [i]) j = gs L j := by
  unfold gs at *
  have hl : L.getLast?.getD 0 = i ∨ j < L.length := by
    rcases h with h | h
    · exact .inr h
    · rw [if_neg (Nat.lt_irrefl _)] at h; exact .inl h
  have hlast : (L ++ [i]).getLast?.getD 0 = i := by simp
  by_cases h1 : j < L.length
  · rw [if_pos h1, if_pos (by simp; omega)]
    simp [List.getD_eq_getElem?_getD, List.getElem?_append_left h1]
  · have hl' := hl.resolve_right h1
    rw [if_neg h1]
    by_cases h2 : j = L.length
    · subst h2
      rw [if_pos (by simp)]
      simp [List.getD_eq_getElem?_getD, hl']
    · rw [if_neg (by simp; omega), hlast, hl']
theorem guess_gs {b k : Nat} {L : List Int} {p : Nat} (hp : b + k ≤ p) : guessv b k L p = gs L (p - b) := by
  unfold guessv atv gs
  by_cases h1 : b + L.length ≤ p
  · rw [if_pos (show p < b + k ∨ b + L.length ≤ p from Or.inr h1), if_neg (show ¬ p - b < L.length by omega)]
    rfl
  · rw [if_neg (show ¬ (p < b + k ∨ b + L.length ≤ p) by omega), if_pos (show p - b < L.length by omega)]
    rfl

section
variable {pl : Int} {L : List Int}
theorem prs_length : ∀ (k : Nat) (own : List Int), (prs pl L k own).length = own.length
  | _, [] => rfl
  | k, o :: own => by simp [prs, prs_length (k + 1) own]
theorem prs_get : ∀ (k : Nat) (own : List Int) (m : Nat) (o : Int), own[m]? = some o → (prs pl L k own)[m]? = some (pr pl o (gs L (k + m)))
  | _, [], m, o, h => by simp at h
  | k, a :: own, 0, o, h => by
    obtain rfl : a = o := by simpa using h
    rfl
  | k, a :: own, m + 1, o, h => by
    have := prs_get (k + 1) own m o (by simpa using h)
    rw [show k + 1 + m = k + (m + 1) by omega] at this
    simpa [prs] using this
theorem prs_app : ∀ (k : Nat) (own : List Int) (i : Int), prs pl L k (own ++ [i]) = prs pl L k own ++ [pr pl i (gs L (k + own.length))]
  | k, [], i => rfl
  | k, a :: own, i => by
    have := prs_app (k + 1) own i
    rw [List.cons_append, prs, this, prs, List.cons_append, List.length_cons, show k + 1 + own.length = k + (own.length + 1) by omega]
theorem prs_congr {L' : List Int} : ∀ (k m : Nat) (own : List Int), (∀ j, k ≤ j → j < k + m → gs L j = gs L' j) → (prs pl L k own).take m = (prs pl L' k own).take m
  | k, m, [], _ => rfl
  | k, 0, a :: own, _ => rfl
  | k, m + 1, a :: own, h => by
    rw [prs, prs, List.take_succ_cons, List.take_succ_cons, h k (Nat.le_refl _) (by omega), prs_congr (k + 1) m own (fun j h1 h2 => h j (by omega) (by omega))]
theorem shw_congr {s : T_api_State} {L' : List Int} {k m : Nat} {own : List Int} (h : ∀ j, k ≤ j → j < k + m → gs L j = gs L' j) : shw s pl L k own m = shw s pl L' k own m := by
  unfold shw
  rw [prs_congr k m own h]
theorem shw_app {s : T_api_State} {k m : Nat} {own : List Int} {i : Int} (h : m ≤ own.length) : shw s pl L k (own ++ [i]) m = shw s pl L k own m := by
  unfold shw
  rw [prs_app, List.take_append_of_le_length (by rw [prs_length]; exact h)]
theorem shw_zero {s : T_api_State} {k : Nat} {own : List Int} : shw s pl L k own 0 = s := rfl
theorem shw_next {s : T_api_State} {k m : Nat} {own : List Int} {o : Int} (h : own[m]? = some o) : shw s pl L k own (m + 1) = stepv (shw s pl L k own m) (pr pl o (gs L (k + m))).1 (pr pl o (gs L (k + m))).2 := by
  unfold shw
  rw [List.take_add_one, prs_get k own m o h, foldv_append]
  rfl
theorem shw_shift {s : T_api_State} {k m : Nat} {own : List Int} {o : Int} : shw s pl L k (o :: own) (m + 1) = shw (shw s pl L k (o :: own) 1) pl L (k + 1) own m := by
  unfold shw
  rw [prs, List.take_succ_cons, List.take_succ_cons, List.take_zero]
  rfl
theorem pr_lt {a c : Int} (ha : a < 64) (hc : c < 64) : (pr pl a c).1 < 64 ∧ (pr pl a c).2 < 64 := by
  unfold pr
  split
  · exact ⟨ha, hc⟩
  · exact ⟨hc, ha⟩
end

theorem step_frame {s : T_api_State} {i j : Int} (hg : stGood s = true) (hi : i < 64) (hj : j < 64) : (stepv s i j).Frame = IntKind.wrap .u64 (s.Frame + 1) := by
  unfold stepv
  rw [if_pos ⟨hg, hi, hj⟩]
  rfl

/-- States, frame by frame. -/
structure FS (sh : Nat → T_api_State) (c : Int) (T : Nat) : Prop where
  c0 : 0 ≤ c
  f : ∀ m, m ≤ T → (sh m).Frame = c + (m : Int) ∧ StOk (sh m) ∧ stGood (sh m) = true
theorem shw_fs {s : T_api_State} {pl : Int} {L : List Int} {k : Nat} {own : List Int} (so : StOk s) (sg : stGood s = true) (ol : ∀ o ∈ own, o < 64) (ll : ∀ o ∈ L, o < 64) (hu : s.Frame + (own.length : Int) ≤ 18446744073709551615) : FS (shw s pl L k own) s.Frame own.length := by
  refine ⟨so.1.1, fun m => ?_⟩
  have h0 := so.1.1
  induction m with
  | zero => exact fun _ => ⟨by rw [shw_zero]; simp, so, sg⟩
  | succ m ih =>
    intro hm
    obtain ⟨f1, f2, f3⟩ := ih (by omega)
    have hx : own[m]? = some (own[m]'(by omega)) := List.getElem?_eq_getElem _
    rw [shw_next hx]
    obtain ⟨p1, p2⟩ := pr_lt (pl := pl) (ol _ (List.getElem_mem (show m < own.length by omega))) (gs_lt ll (k + m))
    refine ⟨?_, step_ok f2, step_good f2 f3⟩
    rw [step_frame f3 p1 p2, f1, wr_u64 ⟨by omega, by omega⟩]
    omega

/-! ### The ring -/
structure RG (r : T_ring_Ring) (n : Nat) (c : Int) (sh : Nat → T_api_State) (T : Nat) : Prop where
  ri : RI r n
  hn : T + 2 ≤ n
  has : sh 0 ∈ vals r.places.1
  all : ∀ t ∈ vals r.places.1, c ≤ t.Frame → ∃ m, m ≤ T ∧ t = sh m

theorem mod_apart {a b : Int} {n : Nat} (h : a % (n : Int) = b % (n : Int)) (h1 : b < a) (h2 : a < b + (n : Int)) : False := by
  have h3 : (a - b) % (n : Int) = 0 := Int.emod_eq_emod_iff_emod_sub_eq_zero.1 h
  rw [Int.emod_eq_of_lt (by omega) (by omega)] at h3
  omega

section
variable {r : T_ring_Ring} {n T : Nat} {c : Int} {sh : Nat → T_api_State}
theorem put_mem (H : RG r n c sh T) (hs : FS sh c T) (hF : 1010 ≤ F) {m : Nat} (hm : m ≤ T) :
    ∃ r' b, m_ring_Ring_Put F r (sh m) = some (r', b) ∧ RI r' n ∧ sh m ∈ vals r'.places.1 ∧ (∀ t ∈ vals r'.places.1, t = sh m ∨ t ∈ vals r.places.1) ∧ (∀ t ∈ vals r.places.1, t.Frame % (n : Int) ≠ (sh m).Frame % (n : Int) → t ∈ vals r'.places.1) := by
  obtain ⟨f1, f2, f3⟩ := hs.f m hm
  have h1 := H.ri.n1
  have hl : (sh m).Shots.length ≤ 1000 := by have := stGood_leI f3; omega
  obtain ⟨y, hy⟩ := slot H.ri (sh m).Frame
  have hc0 := hs.c0
  have hTn := H.hn
  have h3 := Int.emod_nonneg (sh m).Frame (show (n : Int) ≠ 0 by omega)
  have hn : ¬ (y.is_ = true ∧ (sh m).Frame < y.s.Frame) := by
    rintro ⟨hi, hlt⟩
    have hv : y.s ∈ vals r.places.1 := mem_vals.2 ⟨_, y, hy, hi, rfl⟩
    obtain ⟨j, hj, hjs⟩ := H.all _ hv (by omega)
    have hjf := (hs.f j hj).1
    rw [← hjs] at hjf
    have hp := (H.ri.pl _ y hy hi).1
    exact mod_apart (a := y.s.Frame) (b := (sh m).Frame) (n := n) (by omega) hlt (by omega)
  refine ⟨_, _, put_new H.ri f2 hl hF f3 hy hn, put_ri H.ri f2 f3, ?_, ?_, ?_⟩
  · rw [putR_places, vals_set _ hy]
    simp
  · intro t ht
    rw [putR_places, vals_set _ hy] at ht
    rw [vals_at hy]
    rcases List.mem_append.1 ht with ht | ht
    · exact .inr (List.mem_append.2 (.inl ht))
    · rcases List.mem_append.1 ht with ht | ht
      · exact .inl (by simpa using ht)
      · exact .inr (List.mem_append.2 (.inr (List.mem_append.2 (.inr ht))))
  · intro t ht hne
    rw [putR_places, vals_set _ hy]
    rw [vals_at hy] at ht
    rcases List.mem_append.1 ht with ht | ht
    · exact List.mem_append.2 (.inl ht)
    · rcases List.mem_append.1 ht with ht | ht
      · exfalso
        cases hi : y.is_ with
        | false => rw [hi] at ht; simp at ht
        | true =>
          rw [hi] at ht
          obtain rfl : t = y.s := by simpa using ht
          have hp := (H.ri.pl _ y hy hi).1
          exact hne (by omega)
      · exact List.mem_append.2 (.inr (List.mem_append.2 (.inr ht)))
theorem put_rg (H : RG r n c sh T) (hs : FS sh c T) (hF : 1010 ≤ F) {m : Nat} (hm : m ≤ T) : ∃ r' b, m_ring_Ring_Put F r (sh m) = some (r', b) ∧ RG r' n c sh T := by
  obtain ⟨r', b, e1, e2, e3, e4, e5⟩ := put_mem H hs hF hm
  refine ⟨r', b, e1, e2, H.hn, ?_, ?_⟩
  · cases m with
    | zero => exact e3
    | succ m =>
      refine e5 _ H.has (fun h => ?_)
      have h1 := (hs.f 0 (Nat.zero_le _)).1
      have h2 := (hs.f _ hm).1
      have := H.hn
      exact mod_apart (a := (sh (m + 1)).Frame) (b := (sh 0).Frame) h.symm (by omega) (by omega)
  · intro t ht hc
    rcases e4 t ht with rfl | h
    · exact ⟨m, hm, rfl⟩
    · exact H.all t h hc
theorem next_rg (H : RG r n c sh T) (hs : FS sh c T) (hF : 1010 ≤ F) (hT : 1 ≤ T) {sh' : Nat → T_api_State} (he : ∀ m, m + 1 ≤ T → sh (m + 1) = sh' m) : ∃ r' b, m_ring_Ring_Put F r (sh 1) = some (r', b) ∧ RG r' n (c + 1) sh' (T - 1) := by
  obtain ⟨r', b, e1, e2, e3, e4, e5⟩ := put_mem H hs hF hT
  have hn := H.hn
  refine ⟨r', b, e1, e2, by omega, by rw [← he 0 hT]; exact e3, ?_⟩
  intro t ht hc
  rcases e4 t ht with rfl | h
  · exact ⟨0, Nat.zero_le _, he 0 hT⟩
  · obtain ⟨m, hm, rfl⟩ := H.all t h (by omega)
    have := (hs.f m hm).1
    exact ⟨m - 1, by omega, by rw [← he (m - 1) (by omega), show m - 1 + 1 = m by omega]⟩
theorem newest_rg (H : RG r n c sh T) (hs : FS sh c T) (hF : 20 ≤ F) : ∃ m is, m ≤ T ∧ m_ring_Ring_Newest F r = some (sh m, is) := by
  obtain ⟨t, is, e1, e2, e3, e4, e5⟩ := newest_of H.ri hF
  have his : is = true := e2.2 (fun h => by have := H.has; rw [h] at this; cases this)
  subst his
  have h0 := (hs.f 0 (Nat.zero_le _)).1
  have h1 := e5 _ H.has
  obtain ⟨m, hm, rfl⟩ := H.all t (e3 rfl) (by omega)
  exact ⟨m, true, hm, e1⟩

theorem cut_rg (H : RG r n c sh T) (hs : FS sh c T) (hF : 20 ≤ F) {j : Nat} {sh' : Nat → T_api_State} (he : ∀ m, m ≤ j → m ≤ T → sh m = sh' m) : ∃ r' d, m_ring_Ring_Cut F r (c + (j : Int)) = some (r', d) ∧ RG r' n c sh' T := by
  obtain ⟨r', e1, e2, e3⟩ := cut_of H.ri hF (c + (j : Int))
  refine ⟨r', _, e1, e2, H.hn, ?_, ?_⟩
  · rw [← he 0 (Nat.zero_le _) (Nat.zero_le _), e3]
    have := (hs.f 0 (Nat.zero_le _)).1
    exact List.mem_filter.2 ⟨H.has, by simp; omega⟩
  · intro t ht hc
    rw [e3] at ht
    obtain ⟨h1, h2⟩ := List.mem_filter.1 ht
    obtain ⟨m, hm, rfl⟩ := H.all t h1 hc
    have := (hs.f m hm).1
    have h2' := of_decide_eq_true h2
    exact ⟨m, hm, he m (by omega) hm⟩
theorem rg_congr (H : RG r n c sh T) {sh' : Nat → T_api_State} {T' : Nat} (hT : T ≤ T') (hn : T' + 2 ≤ n) (he : ∀ m, m ≤ T → sh m = sh' m) : RG r n c sh' T' := by
  refine ⟨H.ri, hn, by rw [← he 0 (Nat.zero_le _)]; exact H.has, fun t ht hc => ?_⟩
  obtain ⟨m, hm, rfl⟩ := H.all t ht hc
  exact ⟨m, by omega, he m hm⟩
end

/-! ### The engine -/
structure EI (x : T_rollback_Engine) (q : T_queue_Queue) (r : T_ring_Ring) (b k : Nat) (L : List Int) : Prop where
  hq : q = qOf b k L
  hk : k ≤ L.length
  pl : x.player = 0 ∨ x.player = 1
  w : 1 ≤ x.window ∧ x.window ≤ 12
  ow : (x.own.length : Int) ≤ x.window
  ol : ∀ o ∈ x.own, o < 64
  ll : ∀ o ∈ L, o < 64
  so : StOk x.sure
  sg : stGood x.sure = true
  fr : x.sure.Frame = ((b + k : Nat) : Int)
  hb : b ≤ 9223372036854775808
  hl : L.length ≤ 1000
  rg : RG r (x.window.toNat + 2) x.sure.Frame (shw x.sure x.player L k x.own) x.own.length

section
variable {x : T_rollback_Engine} {q : T_queue_Queue} {r : T_ring_Ring} {b k : Nat} {L : List Int}
theorem EI.fs (H : EI x q r b k L) : FS (shw x.sure x.player L k x.own) x.sure.Frame x.own.length := by
  have := H.fr; have := H.hb; have := H.hl; have := H.hk; have := H.ow; have := H.w
  exact shw_fs H.so H.sg H.ol H.ll (by omega)
theorem EI.qo (H : EI x q r b k L) : QOk b k L := ⟨H.hk, by have := H.hb; have := H.hl; omega, by have := H.hl; omega⟩

theorem C_of (x : T_rollback_Engine) (q : T_queue_Queue) (r : T_ring_Ring) : m_rollback_Engine_C F x q r = some x.sure.Frame := rfl
theorem clone_of {l : List Int} (h : l.length ≤ 1000) : m_slices_Clone___api_Input_api_Input F l = some l := by
  unfold m_slices_Clone___api_Input_api_Input
  rw [appI_of (by simp; omega)]
  rfl
theorem Own_of (q : T_queue_Queue) (r : T_ring_Ring) (h : x.own.length ≤ 1000) : m_rollback_Engine_Own F x q r = some x.own := by
  unfold m_rollback_Engine_Own m_rollback_Engine_is
  simp only [Option.bind_some, Bool.not_true, cond_false, clone_of h]
theorem T_of (H : EI x q r b k L) (q' : T_queue_Queue) (r' : T_ring_Ring) : m_rollback_Engine_T F x q' r' = some (x.sure.Frame + (x.own.length : Int)) := by
  have := H.fr; have := H.hb; have := H.hl; have := H.hk; have := H.ow; have := H.w; have := H.so.1
  unfold m_rollback_Engine_T
  rw [C_of, Own_of q' r' (by omega)]
  simp only [Option.bind_some]
  rw [wr_u64 (x := (x.own.length : Int)) ⟨by omega, by omega⟩, wr_u64 ⟨by omega, by omega⟩]
theorem Known_of (H : EI x q r b k L) (r' : T_ring_Ring) : m_rollback_Engine_Known F x q r' = some ((b + L.length : Nat) : Int) := by
  unfold m_rollback_Engine_Known m_rollback_Engine_is
  rw [H.hq, known_q H.qo]
  rfl

theorem pair_of (H : EI x q r b k L) (r' : T_ring_Ring) {m : Nat} {o : Int} (ho : x.own[m]? = some o) : m_rollback_Engine_pair F x q r' (x.sure.Frame + (m : Int)) = some (pr x.player o (gs L (k + m))) := by
  have hm := (List.getElem?_eq_some_iff.1 ho).1
  have h1 := H.fr; have := H.hb; have := H.hl; have := H.hk; have := H.ow; have := H.w; have := H.so.1
  unfold m_rollback_Engine_pair
  have w1 : IntKind.wrap .u64 (x.sure.Frame + (m : Int) - x.sure.Frame) = (m : Int) := by rw [wr_u64 ⟨by omega, by omega⟩]; omega
  have hg : m_queue_Queue_Guess F q (x.sure.Frame + (m : Int)) = some (gs L (k + m)) := by
    rw [H.hq, show x.sure.Frame + (m : Int) = ((b + k + m : Nat) : Int) by omega, guess_q H.qo, guess_gs (by omega), show b + k + m - b = k + m by omega]
  rw [w1, getI_nat, ho]
  simp only [Option.bind_some, hg]
  rcases H.pl with h | h <;> rw [h] <;> rfl

theorem shown_loop (H : EI x q r b k L) (hF : 1010 ≤ F) : ∀ (g m : Nat) (r1 : T_ring_Ring), x.own.length - m < g → m ≤ x.own.length → RG r1 (x.window.toNat + 2) x.sure.Frame (shw x.sure x.player L k x.own) x.own.length →
    ∃ r', m_rollback_Engine_Shown_L16 F x q g r1.size r1.places (shw x.sure x.player L k x.own m).Frame (shw x.sure x.player L k x.own m).Seed (shw x.sure x.player L k x.own m).Players (shw x.sure x.player L k x.own m).Shots (shw x.sure x.player L k x.own m).Score (shw x.sure x.player L k x.own m).Frame (shw x.sure x.player L k x.own m).Seed (shw x.sure x.player L k x.own m).Players (shw x.sure x.player L k x.own m).Shots (shw x.sure x.player L k x.own m).Score =
      some (r'.size, r'.places, (shw x.sure x.player L k x.own x.own.length).Frame, (shw x.sure x.player L k x.own x.own.length).Seed, (shw x.sure x.player L k x.own x.own.length).Players, (shw x.sure x.player L k x.own x.own.length).Shots, (shw x.sure x.player L k x.own x.own.length).Score, (shw x.sure x.player L k x.own x.own.length).Frame, (shw x.sure x.player L k x.own x.own.length).Seed, (shw x.sure x.player L k x.own x.own.length).Players, (shw x.sure x.player L k x.own x.own.length).Shots, (shw x.sure x.player L k x.own x.own.length).Score) ∧
      RG r' (x.window.toNat + 2) x.sure.Frame (shw x.sure x.player L k x.own) x.own.length
  | 0, m, r1, h, _, _ => by omega
  | g + 1, m, r1, h, hm, hr => by
    rw [m_rollback_Engine_Shown_L16.eq_2]
    obtain ⟨f1, f2, f3⟩ := H.fs.f m hm
    rw [T_of H]
    simp only [Option.bind_some]
    by_cases hlt : m < x.own.length
    · have hx : x.own[m]? = some x.own[m] := List.getElem?_eq_getElem hlt
      obtain ⟨r2, bb, e1, e2⟩ := put_rg hr H.fs hF (show m + 1 ≤ x.own.length from hlt)
      have hsl : (shw x.sure x.player L k x.own m).Shots.length ≤ 100 := by have := stGood_leI f3; omega
      have hst : m_step_Step F (shw x.sure x.player L k x.own m) (pr x.player x.own[m] (gs L (k + m))) = some (shw x.sure x.player L k x.own (m + 1)) := by
        rw [shw_next hx]
        exact step_of f2 hsl (by omega)
      obtain ⟨r', e3, e4⟩ := shown_loop H hF g (m + 1) r2 (by omega) hlt e2
      refine ⟨r', ?_, e4⟩
      rw [← e3]
      have hp := pair_of (F := F) H (T_ring_Ring.mk r1.size r1.places) hx
      rw [← f1] at hp
      have hst' : m_step_Step F (T_api_State.mk (shw x.sure x.player L k x.own m).Frame (shw x.sure x.player L k x.own m).Seed (shw x.sure x.player L k x.own m).Players (shw x.sure x.player L k x.own m).Shots (shw x.sure x.player L k x.own m).Score) (pr x.player x.own[m] (gs L (k + m))) = some (shw x.sure x.player L k x.own (m + 1)) := hst
      have e1' : m_ring_Ring_Put F (T_ring_Ring.mk r1.size r1.places) (shw x.sure x.player L k x.own (m + 1)) = some (r2, bb) := e1
      rw [decide_eq_true (show (shw x.sure x.player L k x.own m).Frame < x.sure.Frame + (x.own.length : Int) by omega), cond_true]
      simp only [hp, Option.bind_some, hst', e1']
    · obtain rfl : m = x.own.length := by omega
      rw [decide_eq_false (show ¬ (shw x.sure x.player L k x.own x.own.length).Frame < x.sure.Frame + (x.own.length : Int) by omega), cond_false]
      exact ⟨r1, rfl, hr⟩

/-- What is shown. -/
theorem shown_of (H : EI x q r b k L) (hF : 1010 ≤ F) : ∃ r', m_rollback_Engine_Shown F x q r = some (r', shw x.sure x.player L k x.own x.own.length) ∧ EI x q r' b k L := by
  obtain ⟨m, is, hm, e1⟩ := newest_rg H.rg H.fs (show 20 ≤ F by omega)
  have how := H.ow; have hw := H.w
  obtain ⟨r', e2, e3⟩ := shown_loop (F := F) H hF F m r (by omega) hm H.rg
  obtain ⟨f1, f2, f3⟩ := H.fs.f _ (Nat.le_refl _)
  have hc := copy_of (F := F) (s := shw x.sure x.player L k x.own x.own.length) (by have := stGood_leI f3; omega)
  have hc' : m_state_Copy F (T_api_State.mk (shw x.sure x.player L k x.own x.own.length).Frame (shw x.sure x.player L k x.own x.own.length).Seed (shw x.sure x.player L k x.own x.own.length).Players (shw x.sure x.player L k x.own x.own.length).Shots (shw x.sure x.player L k x.own x.own.length).Score) = _ := hc
  refine ⟨r', ?_, { H with rg := e3 }⟩
  unfold m_rollback_Engine_Shown m_rollback_Engine_is
  simp only [Option.bind_some, Bool.not_true, cond_false, e1, e2, hc']

/-- What a call does. -/
theorem local_ok (H : EI x q r b k L) {i : Int} (hi : i < 64) (ho : (x.own.length : Int) < x.window) :
    m_rollback_Engine_Local F x q r i = some (⟨x.player, x.window, x.sure, x.own ++ [i]⟩, 0) ∧ EI ⟨x.player, x.window, x.sure, x.own ++ [i]⟩ q r b k L := by
  have hw := H.w
  constructor
  · unfold m_rollback_Engine_Local m_rollback_Engine_is m_input_Legal
    rw [appI_of (by simp; omega)]
    simp only [Option.bind_some, Bool.not_true, cond_false, decide_eq_true hi, decide_eq_false (show ¬ x.window ≤ (x.own.length : Int) by omega)]
  · refine ⟨H.hq, H.hk, H.pl, H.w, by simp; omega, ?_, H.ll, H.so, H.sg, H.fr, H.hb, H.hl, ?_⟩
    · intro o ho
      rcases List.mem_append.1 ho with h | h
      · exact H.ol o h
      · rw [List.mem_singleton.1 h]; exact hi
    · exact rg_congr H.rg (by simp) (by simp; omega) (fun m hm => (shw_app hm).symm)
theorem local_bad (x : T_rollback_Engine) (q : T_queue_Queue) (r : T_ring_Ring) {i : Int} (hi : ¬ i < 64) : m_rollback_Engine_Local F x q r i = some (x, 2) := by
  unfold m_rollback_Engine_Local m_rollback_Engine_is m_input_Legal
  simp only [Option.bind_some, Bool.not_true, cond_false, decide_eq_false hi, Bool.not_false, cond_true]
theorem local_full (x : T_rollback_Engine) (q : T_queue_Queue) (r : T_ring_Ring) {i : Int} (hi : i < 64) (ho : x.window ≤ (x.own.length : Int)) : m_rollback_Engine_Local F x q r i = some (x, 7) := by
  unfold m_rollback_Engine_Local m_rollback_Engine_is m_input_Legal
  simp only [Option.bind_some, Bool.not_true, cond_false, decide_eq_true hi, decide_eq_true ho, cond_true]

theorem addv_cases (b k : Nat) (L : List Int) (p : Nat) (i : Int) : (addv b k L p i).1 = L ∨ ((addv b k L p i).1 = L ++ [i] ∧ p = b + L.length ∧ i < 64 ∧ (addv b k L p i).2 = 0) := by
  unfold addv
  split
  · exact .inl rfl
  · split
    · exact .inl rfl
    · split
      · split <;> exact .inl rfl
      · split
        · exact .inl rfl
        · split
          · exact .inl rfl
          · exact .inr ⟨rfl, by omega, by omega, rfl⟩

theorem remote_of (H : EI x q r b k L) (hF : 1010 ≤ F) (hL : L.length < 1000) (p : Nat) (i : Int) :
    ∃ r', m_rollback_Engine_Remote F x q r (p : Int) i = some (qOf b k (addv b k L p i).1, r', (addv b k L p i).2) ∧ EI x (qOf b k (addv b k L p i).1) r' b k (addv b k L p i).1 := by
  have hqo := H.qo
  have hok := (addv_ok (p := p) (i := i) hqo (by omega)).1
  unfold m_rollback_Engine_Remote m_rollback_Engine_is
  rw [H.hq]
  simp only [Option.bind_some, Bool.not_true, cond_false, known_q hqo, guess_q hqo, add_q hqo, known_q hok]
  rcases addv_cases b k L p i with h | ⟨h1, h2, h3, h4⟩
  · rw [h, decide_eq_false (show ¬ ((b + L.length : Nat) : Int) < ((b + L.length : Nat) : Int) by omega)]
    simp only [cond_false, Option.bind_some]
    exact ⟨r, rfl, { H with hq := rfl }⟩
  · rw [h1, decide_eq_true (show ((b + L.length : Nat) : Int) < ((b + (L ++ [i]).length : Nat) : Int) by simp; omega)]
    have hgg : guessv b k L p = gs L L.length := by rw [guess_gs (by have := H.hk; omega), show p - b = L.length by omega]
    rw [hgg]
    have hl' : ∀ o ∈ L ++ [i], o < 64 := by
      intro o ho
      rcases List.mem_append.1 ho with h | h
      · exact H.ll o h
      · rw [List.mem_singleton.1 h]; exact h3
    by_cases hg : gs L L.length = i
    · have : (gs L L.length != i) = false := by simpa using hg
      rw [this]
      simp only [cond_true, cond_false, Option.bind_some]
      refine ⟨r, rfl, ⟨rfl, by simp; have := H.hk; omega, H.pl, H.w, H.ow, H.ol, hl', H.so, H.sg, H.fr, H.hb, by simp; omega, ?_⟩⟩
      exact rg_congr H.rg (Nat.le_refl _) H.rg.hn (fun m hm => shw_congr (fun j _ _ => (gs_app (.inr hg)).symm))
    · have : (gs L L.length != i) = true := by simpa using hg
      rw [this]
      obtain ⟨r', d, e1, e2⟩ := cut_rg (j := L.length - k) (sh' := shw x.sure x.player (L ++ [i]) k x.own) H.rg H.fs (show 20 ≤ F by omega) (fun m hm _ => shw_congr (fun j _ hj => (gs_app (.inl (by omega))).symm))
      have hpc : x.sure.Frame + ((L.length - k : Nat) : Int) = (p : Int) := by have := H.fr; have := H.hk; omega
      rw [hpc] at e1
      simp only [cond_true, e1, Option.bind_some]
      exact ⟨r', rfl, ⟨rfl, by simp; have := H.hk; omega, H.pl, H.w, H.ow, H.ol, hl', H.so, H.sg, H.fr, H.hb, by simp; omega, e2⟩⟩

theorem next_yes (H : EI x q r b k L) {o : Int} {os : List Int} (ho : x.own = o :: os) (hk : k < L.length) : m_rollback_Engine_Next F x q r = some (pr x.player o (gs L k), true) := by
  have hfr := H.fr
  have hp := pair_of (F := F) H r (m := 0) (o := o) (by rw [ho]; rfl)
  rw [show x.sure.Frame + ((0 : Nat) : Int) = x.sure.Frame by simp] at hp
  unfold m_rollback_Engine_Next m_rollback_Engine_is
  have hq := known_q (F := F) H.qo
  rw [← H.hq] at hq
  have hl0 : ((x.own.length : Int) == 0) = false := by rw [ho]; simp; omega
  simp only [Option.bind_some, Bool.not_true, cond_false, hl0, hq, decide_eq_false (show ¬ ((b + L.length : Nat) : Int) ≤ x.sure.Frame by omega), hp]
  rfl
theorem next_no (H : EI x q r b k L) (h : x.own = [] ∨ L.length = k) : m_rollback_Engine_Next F x q r = some ((0, 0), false) := by
  have hfr := H.fr
  unfold m_rollback_Engine_Next m_rollback_Engine_is
  have hq := known_q (F := F) H.qo
  rw [← H.hq] at hq
  by_cases h0 : x.own = []
  · have hl0 : ((x.own.length : Int) == 0) = true := by rw [h0]; rfl
    simp only [Option.bind_some, Bool.not_true, cond_false, hl0, cond_true]
  · have hl0 : ((x.own.length : Int) == 0) = false := by
      have := List.length_pos_iff.2 h0
      simp; omega
    have hk := h.resolve_left h0
    simp only [Option.bind_some, Bool.not_true, cond_false, hl0, hq, decide_eq_true (show ((b + L.length : Nat) : Int) ≤ x.sure.Frame by omega), cond_true]
theorem confirm_no (H : EI x q r b k L) {f : Int} (h : x.own = [] ∨ L.length = k ∨ f ≤ x.sure.Frame) : m_rollback_Engine_Confirm F x q r f = some (x, q, r, (0, 0), false) := by
  unfold m_rollback_Engine_Confirm
  by_cases h0 : x.own = [] ∨ L.length = k
  · rw [next_no H h0]
    rfl
  · have hf : f ≤ x.sure.Frame := by
      rcases h with h | h | h
      · exact absurd (.inl h) h0
      · exact absurd (.inr h) h0
      · exact h
    obtain ⟨o, os, ho⟩ : ∃ o os, x.own = o :: os := by
      cases hx : x.own with
      | nil => exact absurd (.inl hx) h0
      | cons o os => exact ⟨o, os, rfl⟩
    have hk : k < L.length := by
      have := H.hk
      rcases Nat.lt_or_ge k L.length with h | h
      · exact h
      · exact absurd (.inr (by omega)) h0
    rw [next_yes H ho hk]
    simp only [Option.bind_some, Bool.not_true, cond_false, decide_eq_true hf, cond_true]
theorem confirm_yes (H : EI x q r b k L) (hF : 1010 ≤ F) {f : Int} {o : Int} {os : List Int} (ho : x.own = o :: os) (hk : k < L.length) (hf : x.sure.Frame < f) :
    ∃ r', m_rollback_Engine_Confirm F x q r f = some (⟨x.player, x.window, shw x.sure x.player L k x.own 1, os⟩, qOf b (k + 1) L, r', pr x.player o (gs L k), true) ∧ EI ⟨x.player, x.window, shw x.sure x.player L k x.own 1, os⟩ (qOf b (k + 1) L) r' b (k + 1) L := by
  have hfr := H.fr; have hw := H.w; have how := H.ow
  have hlen : x.own.length = os.length + 1 := by rw [ho]; rfl
  obtain ⟨f1, f2, f3⟩ := H.fs.f 1 (by omega)
  obtain ⟨r', bb, e1, e2⟩ := next_rg H.rg H.fs hF (by omega) (sh' := shw (shw x.sure x.player L k x.own 1) x.player L (k + 1) os) (fun m _ => by rw [ho]; exact shw_shift)
  have hst : m_step_Step F x.sure (pr x.player o (gs L k)) = some (shw x.sure x.player L k x.own 1) := by
    rw [show (1 : Nat) = 0 + 1 from rfl, shw_next (o := o) (by rw [ho]; rfl)]
    exact step_of H.so (by have := stGood_leI H.sg; omega) (by omega)
  have hcut : cutI x.own 1 (x.own.length : Int) = some os := cutI_of (i := 1) (j := x.own.length) rfl rfl (by omega) (Nat.le_refl _) (by rw [List.take_length, ho]; rfl)
  have hdrop : m_queue_Queue_Drop F q (shw x.sure x.player L k x.own 1).Frame = some (qOf b (k + 1) L) := by
    rw [H.hq, f1, show x.sure.Frame + ((1 : Nat) : Int) = ((b + k + 1 : Nat) : Int) by omega, drop_q H.qo]
    have : dropv b k L (b + k + 1) = k + 1 := by
      unfold dropv
      rw [if_neg (by omega), Nat.min_eq_left (by omega)]
      omega
    rw [this]
  refine ⟨r', ?_, ⟨rfl, by omega, H.pl, H.w, by show (os.length : Int) ≤ x.window; omega, fun o' h' => H.ol o' (by rw [ho]; exact List.mem_cons_of_mem _ h'), H.ll, f2, f3, by rw [f1]; omega, H.hb, H.hl, ?_⟩⟩
  · unfold m_rollback_Engine_Confirm
    rw [next_yes H ho hk]
    simp only [Option.bind_some, Bool.not_true, cond_false, decide_eq_false (show ¬ f ≤ x.sure.Frame by omega), hst, hcut, clone_of (F := F) (show os.length ≤ 1000 by omega), hdrop, e1]
  · show RG r' (x.window.toNat + 2) (shw x.sure x.player L k x.own 1).Frame _ os.length
    rw [f1, show os.length = x.own.length - 1 by omega]
    exact e2
end

/-- A new engine. -/
theorem new_ei (hF : 1010 ≤ F) {s : T_api_State} {pl w : Int} (so : StOk s) (sg : stGood s = true) (hf : s.Frame ≤ 9223372036854775808) (hp : pl = 0 ∨ pl = 1) (hw : 1 ≤ w ∧ w ≤ 12) :
    ∃ r, m_rollback_New F s pl w = some (some (⟨pl, w, s, []⟩, qOf s.Frame.toNat 0 [], r)) ∧ EI ⟨pl, w, s, []⟩ (qOf s.Frame.toNat 0 []) r s.Frame.toNat 0 [] := by
  have hle := stGood_leI sg
  have h0 := so.1.1
  obtain ⟨r0, e1, e2, e3⟩ := new_of' (F := F) (p := w + 2) (by omega)
  have hn : (w + 2).toNat = w.toNat + 2 := by omega
  rw [hn] at e2
  obtain ⟨y, hy⟩ := slot e2 s.Frame
  have hyi : ¬ (y.is_ = true ∧ s.Frame < y.s.Frame) := by
    rintro ⟨hi, _⟩
    have : y.s ∈ vals r0.places.1 := mem_vals.2 ⟨_, y, hy, hi, rfl⟩
    rw [e3] at this
    cases this
  have hput := put_new (F := F) e2 so (by omega) hF sg hy hyi
  have hval : vals (putR r0 (w.toNat + 2) s).places.1 = [s] := by
    have h1 := vals_at hy
    rw [e3] at h1
    have h2 := List.append_eq_nil_iff.1 h1.symm
    have h3 := List.append_eq_nil_iff.1 h2.2
    rw [putR_places, vals_set _ hy, h2.1, h3.2]
    rfl
  refine ⟨putR r0 (w.toNat + 2) s, ?_, ⟨rfl, Nat.le_refl _, hp, hw, by show ((0 : Nat) : Int) ≤ w; omega, by simp, by simp, so, sg, by show s.Frame = _; simp; omega, by omega, by simp, ?_⟩⟩
  · unfold m_rollback_New m_queue_New
    have hc := check_of (F := F) so (by omega) (by omega) (by omega)
    rw [hc, if_pos sg]
    have hq : T_queue_Queue.mk s.Frame [] 0 = qOf s.Frame.toNat 0 [] := by
      unfold qOf
      simp [Int.toNat_of_nonneg h0]
    have w2 : IntKind.wrap .i64 (w + 2) = w + 2 := wr_i64 ⟨by omega, by omega⟩
    simp only [Option.bind_some, show ((0 : Int) != 0) = false from rfl, cond_false, decide_eq_false (show ¬ (9223372036854775808 : Int) < s.Frame by omega), decide_eq_false (show ¬ (1 : Int) < pl by omega), decide_eq_false (show ¬ w < 1 by omega), decide_eq_false (show ¬ (12 : Int) < w by omega), copy_of (F := F) (s := s) (by omega), w2, e1, poE, hput, hq]
  · refine ⟨put_ri e2 so sg, by simp, by rw [hval]; exact List.mem_singleton.2 rfl, fun t ht _ => ⟨0, Nat.le_refl _, ?_⟩⟩
    rw [hval] at ht
    exact List.mem_singleton.1 ht

def startS (d : Int) : T_api_State := ⟨0, d, (⟨8192, 14336, 0, 0, 100, 0, 0⟩, ⟨53248, 14336, 0, 0, 100, 0, 1⟩), [], (0, 0)⟩
theorem startP1 : PlOk ⟨8192, 14336, 0, 0, 100, 0, 0⟩ := ⟨by decide, by decide, by decide, by decide, by decide, by decide, by decide⟩
theorem startP2 : PlOk ⟨53248, 14336, 0, 0, 100, 0, 1⟩ := ⟨by decide, by decide, by decide, by decide, by decide, by decide, by decide⟩
theorem start_ok {d : Int} (h : 0 ≤ d ∧ d ≤ 18446744073709551615) : StOk (startS d) := ⟨⟨Int.le_refl 0, by show (0 : Int) ≤ _; omega⟩, h, startP1, startP2, (fun x hx => absurd hx (List.not_mem_nil)), ⟨Int.le_refl 0, by show (0 : Int) ≤ _; omega⟩, ⟨Int.le_refl 0, by show (0 : Int) ≤ _; omega⟩⟩
theorem start_good (d : Int) : stGood (startS d) = true := rfl
theorem start_is (hF : 3 ≤ F) (d : Int) : m_state_Start F d = some (startS d) := start_of hF

end Go.Proofs.YtkdbpenjkcjimaaGreatDoor
