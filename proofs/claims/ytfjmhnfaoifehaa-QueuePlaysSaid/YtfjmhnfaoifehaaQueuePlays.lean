/-
  Chapter 24: the law QueuePlays: the queue and the document's queue answer alike, whatever is done.
-/
import Derived.Test.YtfjmhnfaoifehaaQueuePure
import Derived.Test.YtfjmhnfaoifehaaRows
import Derived.Test.YtfjmhnfaoifehaaWalk
namespace Go.Proofs.Ytfjmhnfaoifehaa
open Go.Proofs.Ytfjmhnfaoifehaa.Eng Go.RowKit Go.ChangeShapes Go.WideShapes Go.ChangeAt
set_option linter.unusedSimpArgs false
set_option linter.unusedVariables false
set_option maxHeartbeats 2000000
set_option maxRecDepth 20000

variable {F b k : Nat} {L : List Int}

def restv (b k : Nat) (L : List Int) (p : Nat) : List Int := if p < b + k ∨ b + L.length ≤ p then [] else L.drop (p - b)

theorem slice_q (h : QOk b k L) {p : Nat} {n : Int} : m_queue_Queue_Slice F (qOf b k L) (p : Int) n = some ((restv b k L p).take n.toNat) := by
  have hl : (restv b k L p).length ≤ L.length := by unfold restv; split <;> simp
  have := h.s
  simp only [m_queue_Queue_Slice, from_q h, Option.bind_some]
  show (Option.bind (cutI (restv b k L p) 0 (max 0 (min n ((restv b k L p).length : Int)))) fun v17 => Option.bind (appI [] v17) fun v18 => some v18) = _
  rw [cutI_of (lo := 0) (i := 0) (j := min n.toNat (restv b k L p).length) (ys := (restv b k L p).take n.toNat) rfl (by omega) (by omega) (by omega) (by
    rw [List.drop_zero]
    rw [List.take_eq_take_iff]; omega)]
  simp only [Option.bind_some]
  rw [appI_of (by simp; omega)]
  rfl

theorem slice_loop (h : QOk b k L) {n : Int} : ∀ (m p : Nat) (acc : List Int), b + L.length - p < m → p ≤ 18446744073709551615 → acc.length + (b + L.length - p) ≤ 2000000 →
    m_hindcastref24_Queue_Slice_L6 F (rOf b k L) n m (p : Int) acc = some (acc ++ (restv b k L p).take (n - acc.length).toNat)
  | 0, p, acc, hm, _, _ => by omega
  | m + 1, p, acc, hm, hp, ha => by
    rw [m_hindcastref24_Queue_Slice_L6.eq_2]
    have hu := h.u
    by_cases h1 : (acc.length : Int) < n
    · simp only [decide_eq_true h1, cond_true, at_r h hp, Option.bind_some, atv]
      by_cases h2 : p < b + k ∨ b + L.length ≤ p
      · simp [h2, restv]
      · have h3 : p - b < L.length := by omega
        have hd : L.drop (p - b) = L.getD (p - b) 0 :: L.drop (p + 1 - b) := by
          rw [List.drop_eq_getElem_cons h3, show p - b + 1 = p + 1 - b by omega]
          simp [h3]
        have hw : IntKind.wrap .u64 ((p : Int) + 1) = ((p + 1 : Nat) : Int) := by rw [wr_u64 ⟨by omega, by omega⟩]; omega
        have ih := slice_loop h (n := n) m (p + 1) (acc ++ [L.getD (p - b) 0]) (by omega) (by omega) (by simp; omega)
        simp only [h2, if_false, Bool.not_true, cond_false]
        rw [appI_of (by simp; omega)]
        simp only [Option.bind_some, hw]
        rw [ih]
        have e1 : restv b k L p = L.getD (p - b) 0 :: L.drop (p + 1 - b) := by unfold restv; rw [if_neg h2, hd]
        have e2 : restv b k L (p + 1) = L.drop (p + 1 - b) := by
          unfold restv
          by_cases h4 : b + L.length ≤ p + 1
          · rw [if_pos (.inr h4), List.drop_of_length_le (by omega)]
          · rw [if_neg (by omega)]
        rw [e1, e2]
        have e3 : (n - (acc.length : Int)).toNat = (n - ((acc ++ [L.getD (p - b) 0]).length : Int)).toNat + 1 := by simp; omega
        rw [e3, List.take_succ_cons]
        simp
    · simp only [decide_eq_false h1, cond_false]
      rw [show (n - (acc.length : Int)).toNat = 0 by omega]
      simp

theorem slice_r (h : QOk b k L) {p : Nat} {n : Int} (hF : L.length < F) (hp : p ≤ 18446744073709551615) : m_hindcastref24_Queue_Slice F (rOf b k L) (p : Int) n = some ((restv b k L p).take n.toNat) := by
  have := h.s; have := h.u
  simp only [m_hindcastref24_Queue_Slice]
  by_cases h1 : p < b
  · have e : m_hindcastref24_Queue_Slice_L6 F (rOf b k L) n F (p : Int) [] = some [] := by
      obtain ⟨m, rfl⟩ : ∃ m, F = m + 1 := ⟨F - 1, by omega⟩
      rw [m_hindcastref24_Queue_Slice_L6.eq_2]
      simp only [at_r h hp, Option.bind_some, atv, if_pos (show p < b + k ∨ b + L.length ≤ p by omega)]
      cases (decide (((([] : List Int).length : Nat) : Int) < n)) <;> rfl
    rw [e]
    simp [restv, show p < b + k by omega]
  · rw [slice_loop h F p [] (by omega) hp (by simp; omega)]
    simp

theorem same_loop {xs : List Int} : ∀ (m i : Nat), xs.length - i < m → i ≤ xs.length → xs.length ≤ 1000000 → m_hindcastref06_Same_L14 F xs xs m (i : Int) = some (.inl false)
  | 0, i, hm, _, _ => by omega
  | m + 1, i, hm, hi, hs => by
    rw [m_hindcastref06_Same_L14.eq_2]
    by_cases h1 : i < xs.length
    · have ih := same_loop (xs := xs) m (i + 1) (by omega) (by omega) hs
      have hw : IntKind.wrap .i64 ((i : Int) + 1) = ((i + 1 : Nat) : Int) := by rw [wr_i64 ⟨by omega, by omega⟩]; omega
      simp only [decide_eq_true (show (i : Int) < (xs.length : Int) by omega), cond_true, getI_nat, List.getElem?_eq_getElem h1, Option.bind_some, bne_self_eq_false, cond_false, hw, ih]
    · simp only [decide_eq_false (show ¬ (i : Int) < (xs.length : Int) by omega), cond_false]

theorem same_self {xs : List Int} (hF : xs.length < F) (hs : xs.length ≤ 1000000) : m_hindcastref06_Same F xs xs = some true := by
  simp only [m_hindcastref06_Same, bne_self_eq_false, cond_false]
  rw [show (0 : Int) = ((0 : Nat) : Int) from rfl, same_loop F 0 (by omega) (by omega) hs]
  rfl

structure ActOk (a : T_hindcastlaw24_Act) : Prop where
  F : 0 ≤ a.F ∧ a.F ≤ 18446744073709551615
  Ask : 0 ≤ a.Ask ∧ a.Ask ≤ 18446744073709551615

theorem plays_loop {acts : List T_hindcastlaw24_Act} (hF : 1000 ≤ F) (ha : ∀ a ∈ acts, ActOk a) (hl : acts.length ≤ 200) : ∀ (m j k : Nat) (L : List Int), QOk b k L → L.length ≤ j → j ≤ acts.length → acts.length - j < m →
    ∃ s, m_hindcastlaw24_QueuePlays_L26 F acts m (j : Int) (qOf b k L).first_ (qOf b k L).l (qOf b k L).last (rOf b k L).Begin (rOf b k L).First (rOf b k L).L = some (.inl (false, s))
  | 0, j, k, L, h, hj, hja, hm => by omega
  | m + 1, j, k, L, h, hj, hja, hm => by
    rw [m_hindcastlaw24_QueuePlays_L26.eq_2]
    by_cases h1 : j < acts.length
    · obtain ⟨a, hx⟩ : ∃ a, acts[j]? = some a := ⟨_, List.getElem?_eq_getElem h1⟩
      have hok := ha a (List.mem_of_getElem? hx)
      obtain ⟨f, hf⟩ := Int.eq_ofNat_of_zero_le hok.F.1
      obtain ⟨q, hq⟩ := Int.eq_ofNat_of_zero_le hok.Ask.1
      have hf2 : f ≤ 18446744073709551615 := by have := hok.F.2; omega
      have hq2 : q ≤ 18446744073709551615 := by have := hok.Ask.2; omega
      have hw : IntKind.wrap .i64 ((j : Int) + 1) = ((j + 1 : Nat) : Int) := by rw [wr_i64 ⟨by omega, by omega⟩]; omega
      have tail : ∀ (k' : Nat) (L' : List Int), QOk b k' L' → L'.length ≤ j + 1 → ∃ s,
          (Option.bind (m_queue_Queue_At F (qOf b k' L') a.Ask) fun (v62_0, v62_1) => (Option.bind (m_hindcastref24_Queue_At F (rOf b k' L') a.Ask) fun (v69_0, v69_1) =>
            (Option.bind (cond (v62_0 != v69_0) (some (true)) (some ((v62_1 != v69_1)))) fun v79 => (Option.bind (cond v79 (some (true)) ((Option.bind (m_queue_Queue_First F (qOf b k' L')) fun v82 => some ((v82 != (rOf b k' L').First))))) fun v88 =>
            (Option.bind (cond v88 (some (true)) ((Option.bind (m_queue_Queue_Known F (qOf b k' L')) fun v91 => (Option.bind (m_hindcastref24_Queue_Known F (rOf b k' L')) fun v93 => some ((v91 != v93)))))) fun v95 =>
            (Option.bind (cond v95 (some (true)) ((Option.bind (m_queue_Queue_Guess F (qOf b k' L') a.Ask) fun v100 => (Option.bind (m_hindcastref24_Queue_Guess F (rOf b k' L') a.Ask) fun v104 => some ((v100 != v104)))))) fun v106 =>
            (Option.bind (cond v106 (some (true)) ((Option.bind (m_queue_Queue_Slice F (qOf b k' L') a.Ask a.N) fun v113 => (Option.bind (m_hindcastref24_Queue_Slice F (rOf b k' L') a.Ask a.N) fun v119 => (Option.bind (m_hindcastref06_Same F v113 v119) fun v120 => some ((!v120))))))) fun v122 =>
            (cond v122 (some (.inr false)) (m_hindcastlaw24_QueuePlays_L26 F acts m (IntKind.wrap .i64 ((j : Int) + (1 : Int))) (qOf b k' L').first_ (qOf b k' L').l (qOf b k' L').last (rOf b k' L').Begin (rOf b k' L').First (rOf b k' L').L)))))))))
          = some (.inl (false, s)) := by
        intro k' L' h' hl'
        obtain ⟨s, ih⟩ := plays_loop hF ha hl m (j + 1) k' L' h' hl' (by omega) (by omega)
        refine ⟨s, ?_⟩
        have hss : ((restv b k' L' q).take a.N.toNat).length ≤ L'.length := by
          have : (restv b k' L' q).length ≤ L'.length := by unfold restv; split <;> simp
          rw [List.length_take]; omega
        have hf1 : m_queue_Queue_First F (qOf b k' L') = some (rOf b k' L').First := rfl
        rw [hq]
        simp only [at_q h', at_r h' hq2, hf1, known_q h', known_r h', guess_q h', guess_r h' hq2, slice_q h', slice_r h' (show L'.length < F by omega) hq2, same_self (F := F) (show ((restv b k' L' q).take a.N.toNat).length < F by omega) (by omega),
          Option.bind_some, bne_self_eq_false, cond_false, Bool.not_true, hw, ih]
      simp only [decide_eq_true (show (j : Int) < (acts.length : Int) by omega), cond_true, getI_nat, hx, Option.bind_some, T_queue_Queue.eta, T_hindcastref24_Queue.eta]
      cases (decide (Int.tmod a.What 4 < 3))
      · simp only [cond_false, hf, drop_q h, drop_r h, Option.bind_some]
        exact tail _ _ (dropv_ok h) (by omega)
      · have ho := addv_ok h (p := f) (i := a.I) (by omega)
        simp only [cond_true, hf, add_q h, add_r h hf2, Option.bind_some, bne_self_eq_false, cond_false]
        exact tail _ _ ho.1 (by omega)
    · simp only [decide_eq_false (show ¬ (j : Int) < (acts.length : Int) by omega), cond_false]
      exact ⟨_, rfl⟩

theorem plays_works : m_hindcastlaw24_works 1000 = some true := by kernel_rfl

theorem queuePlays_pure {b : Int} (hb : 0 ≤ b ∧ b ≤ 18446744073709551615) {acts : List T_hindcastlaw24_Act} (ha : ∀ a ∈ acts, ActOk a) : m_hindcastlaw24_QueuePlays 1000 b acts = some true := by
  obtain ⟨b, rfl⟩ := Int.eq_ofNat_of_zero_le hb.1
  simp only [m_hindcastlaw24_QueuePlays, m_queue_New, m_hindcastref24_New, Option.bind_some, plays_works]
  by_cases h1 : (200 : Int) < (acts.length : Int)
  · simp only [decide_eq_true h1, cond_true]
  · obtain ⟨s, hs⟩ := plays_loop (F := 1000) (b := b) (by omega) ha (by omega) 1000 0 0 [] ⟨by simp, by simp; omega, by simp⟩ (by simp) (by omega) (by omega)
    simp only [decide_eq_false h1, cond_false]
    have hs' : m_hindcastlaw24_QueuePlays_L26 1000 acts 1000 0 (b : Int) [] 0 (b : Int) (b : Int) [] = some (.inl (false, s)) := hs
    rw [hs']
    rfl


theorem act_rd {w : World} {m : Nat} {cs : List Value} (h : Rdw TT w (m + 2) 40 cs) : ∃ x : T_hindcastlaw24_Act, cs = c_T_hindcastlaw24_Act x ∧ ActOk x := by
  obtain ⟨hl, hf⟩ := rd_struct h rfl
  match cs, hl with
  | [a, b, c, d, e], _ =>
    obtain ⟨x, rfl, wx⟩ := rd_cell (hf (5, 0) (by simp)) rfl
    obtain ⟨y, rfl, wy⟩ := rd_cell (hf (22, 1) (by simp)) rfl
    obtain ⟨u, rfl, wu⟩ := rd_cell (hf (22, 2) (by simp)) rfl
    obtain ⟨v, rfl, wv⟩ := rd_cell (hf (31, 3) (by simp)) rfl
    obtain ⟨z, rfl, wz⟩ := rd_cell (hf (3, 4) (by simp)) rfl
    exact ⟨⟨x, y, u, v, z⟩, rfl, ⟨wf_u64 wy, wf_u64 wu⟩⟩

theorem queuePlays_walk (W : World) (v0 v1 : Value) (R0 : Rdw TT W 8 22 [v0]) (R1 : Rdw TT W 8 36 [v1]) : Calls Try.prog 4 #[v0, v1] W fun e w' => e = .returned (.bool true) ∧ Inv W [] w' [] := by
  obtain ⟨b, rfl, wf⟩ := rd_cell R0 rfl
  obtain ⟨a, n, cap, xs, rfl, hn, hc, _, hr, hok⟩ := rd_list (enc := c_T_hindcastlaw24_Act) (ok := ActOk) R1 rfl rfl c_T_hindcastlaw24_Act_len (fun es _ h => act_rd h)
  exact (k_hindcastlaw24_QueuePlays hn hc (queuePlays_pure (wf_u64 wf) hok)).run W hr

set_option maxRecDepth 100000 in
theorem queuePlays_lifted (os : Os) (started : os.Started) (H : Type) (enc : TypeId × Value → H) :
    ReturnsInHanded {} Try.checked os 4 .any (Rows.queuePlaysSpec.pre6 enc Try.prog Try.f4 Rows.queuePlaysRow.domain false) (Rows.queuePlaysSpec.post enc Try.prog Try.f4 false true false false) := by
  refine returnsInHanded_of_change_sized (C := Try.checked) (by kernel_rfl) started (by kernel_rfl) Try.func4
    (ChangeSpec.witness6 (enc := enc) (C := Try.checked) false ⟨#[], #[.int .u64 0, .slice none 0 0], []⟩ 8 (by kernel_rfl) (by kernel_rfl) (by kernel_rfl) (by kernel_rfl)) ?_
  intro W base args ds gs before hval0 hW hcnd hsz0 _
  have hval : ∀ (j : Nat) t v, Try.f4.params[j]? = some t → args[j]? = some v → Value.okWide Try.prog W .any base t v := hval0
  have hW' := hW
  obtain ⟨p, q, hA0, hV, rfl, hfz, hnd⟩ := hW
  have hA : DataW.TrodAll enc Try.prog W 0 (fun _ => true) true Try.f4.params.toList args.toList ds p := hA0
  obtain ⟨rfl, rfl⟩ := trodVars_none hV
  have hsz : ∀ x ∈ DataW.weightsEach Try.prog Try.f4.params.toList ds, x ≤ maxB := by
    have h1 : (DataW.weightsEach Try.prog (Try.f4.params.toList ++ []) (ds ++ [])).all (· ≤ reachBytes) = true := hsz0
    simp only [List.append_nil] at h1
    intro x hx; have h2 := List.all_eq_true.1 h1 x hx; simp only [decide_eq_true_eq] at h2; exact h2
  rw [Try.params4] at hA hval hsz
  have hR := rdw_all tt_ok ctt_ok (closed_of tt_closed) (fun _ => rfl) 8 hA hsz
  have hback := fun (W2 : World) (hb : Below W.heap.size W W2) => trodAll_below (by kernel_rfl : laidOutB Try.prog = true) hb (by kernel_rfl) hA
  obtain ⟨v0, vs0, d0, ds0, p0, q0, hargs, rfl, rfl, h0, r0⟩ := trodAll_cons hA
  obtain ⟨v1, vs1, d1, ds1, p1, q1, rfl, rfl, rfl, h1, r1⟩ := trodAll_cons r0
  obtain ⟨rfl, rfl, rfl⟩ := trodAll_nil r1
  obtain rfl : args = #[v0, v1] := by cases args; simp_all
  have R0 := hR 0 22 v0 rfl rfl
  have e0 := val_one tt_ok (t := 22) rfl (by intro h; cases h) rfl (hval 0 22 v0 rfl rfl)
  rw [e0] at R0
  have R1 := hR 1 36 v1 rfl rfl
  have e1 := val_one tt_ok (t := 36) rfl (by intro h; cases h) rfl (hval 1 36 v1 rfl rfl)
  rw [e1] at R1
  clear hval hval0 hsz hsz0 hR hA0
  refine (queuePlays_walk W v0 v1 R0 R1).mono fun e W2 ⟨he, hI⟩ => ?_
  subst he
  exact ⟨_, rfl, _, _, _, [], _, [], hW', trodAll_mk1 (shut_bool Try.underlying4 _), hback _ (below_of_inv hI), rfl, (below_of_inv hI).frame _, fun h => by cases h⟩

theorem queuePlays_holds : Rows.QueuePlaysSaid :=
  OpenClaim.holds_of_wide 4 Try.f4 rfl rfl rfl rfl rfl rfl rfl ⟨rfl, rfl, rfl, rfl, rfl⟩ rfl rfl rfl rfl rfl (by kernel_rfl) Try.func4 (by kernel_rfl)
    (of_decide_eq_true (by kernel_rfl)) (by unfold Func.isWrapper; first | (rw [if_pos (by decide +kernel)]; kernel_rfl) | (rw [if_neg (by decide +kernel)]; exact ⟨rfl, rfl⟩))
    (fun os started H enc _ => queuePlays_lifted os started H enc)

end Go.Proofs.Ytfjmhnfaoifehaa
