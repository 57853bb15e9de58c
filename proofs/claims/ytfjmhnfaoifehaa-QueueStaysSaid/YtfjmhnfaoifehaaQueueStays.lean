/-
  Chapter 24: the law QueueStays: what was once known, and not dropped, stays; known never falls.
-/
import Derived.Test.YtfjmhnfaoifehaaQueuePure
import Derived.Test.YtfjmhnfaoifehaaRows
import Derived.Test.YtfjmhnfaoifehaaWalk
namespace Go.Proofs.Ytfjmhnfaoifehaa
open Go.Proofs.Ytfjmhnfaoifehaa.Eng Go.RowKit Go.ChangeShapes Go.WideShapes Go.ChangeAt
set_option linter.unusedSimpArgs false
set_option linter.unusedVariables false
set_option maxHeartbeats 2000000
set_option maxRecDepth 20000

variable {F b k : Nat} {L : List Int}

theorem slice_all (h : QOk b k L) (h24 : L.length - k ≤ 24) : m_queue_Queue_Slice F (qOf b k L) ((b + k : Nat) : Int) 1000 = some (L.drop k) := by
  have := h.k; have := h.u
  simp only [m_queue_Queue_Slice, from_q h, Option.bind_some]
  have e0 : (if b + k < b + k ∨ b + L.length ≤ b + k then ([] : List Int) else L.drop (b + k - b)) = L.drop k := by
    by_cases h1 : b + L.length ≤ b + k
    · rw [if_pos (.inr h1), List.drop_of_length_le (by omega)]
    · rw [if_neg (by omega), show b + k - b = k by omega]
  rw [e0]
  rw [cutI_of (lo := 0) (i := 0) (j := (L.drop k).length) (ys := L.drop k) rfl (by simp; omega) (by omega) (Nat.le_refl _) (by rw [List.take_length]; rfl)]
  simp only [Option.bind_some]
  rw [appI_of (by simp; omega)]
  rfl

theorem addv_ext {p : Nat} {i : Int} : ∃ e, (addv b k L p i).1 = L ++ e := by
  unfold addv
  split
  · exact ⟨[], by simp⟩
  · split
    · exact ⟨[], by simp⟩
    · split
      · split <;> exact ⟨[], by simp⟩
      · split
        · exact ⟨[], by simp⟩
        · split
          · exact ⟨[], by simp⟩
          · exact ⟨[i], rfl⟩

theorem addv_24 {p : Nat} {i : Int} (h : k ≤ L.length) (h24 : L.length - k ≤ 24) : (addv b k L p i).1.length - k ≤ 24 := by
  unfold addv
  split
  · exact h24
  · split
    · exact h24
    · split
      · split <;> exact h24
      · split
        · exact h24
        · split
          · exact h24
          · simp; omega

theorem stays_in {k' : Nat} {e : List Int} (h : QOk b k L) (h' : QOk b k' (L ++ e)) (hk : k ≤ k') : ∀ (m i : Nat) (now : List Int), now.length = (L ++ e).length - k' → i ≤ now.length → (∀ j, i ≤ j → now[j]? = (L ++ e)[k' + j]?) → now.length - i < m →
    m_hindcastlaw24_QueueStays_L67 F ((b + k : Nat) : Int) ((b + L.length : Nat) : Int) (L.drop k) (qOf b k' (L ++ e)).first_ (qOf b k' (L ++ e)).l (qOf b k' (L ++ e)).last m (i : Int) now = some (.inl false)
  | 0, i, now, _, _, _, hm => by omega
  | m + 1, i, now, hl, hi, hn, hm => by
    have := h.k; have := h.u; have := h'.k; have := h'.u; have := h'.s
    rw [m_hindcastlaw24_QueueStays_L67.eq_2]
    by_cases h1 : i < now.length
    · have hw : IntKind.wrap .i64 ((i : Int) + 1) = ((i + 1 : Nat) : Int) := by rw [wr_i64 ⟨by omega, by omega⟩]; omega
      have hf : m_queue_Queue_First F (qOf b k' (L ++ e)) = some ((b + k' : Nat) : Int) := rfl
      have hx : now[i]? = some (now[i]) := List.getElem?_eq_getElem h1
      have hx2 := hn i (Nat.le_refl _)
      have hwi : IntKind.wrap .u64 (((b + k' : Nat) : Int) + IntKind.wrap .u64 (i : Int)) = ((b + k' + i : Nat) : Int) := by
        rw [wr_u64 (x := (i : Int)) ⟨by omega, by omega⟩, wr_u64 ⟨by omega, by omega⟩]; omega
      have ih := stays_in h h' hk m (i + 1) (setI now (i : Int) 99) (by rw [setI_length]; exact hl) (by rw [setI_length]; omega) (fun j hj => by
        unfold setI
        rw [List.getElem?_set_ne (by simp; omega)]
        exact hn j (by omega)) (by rw [setI_length]; omega)
      simp only [decide_eq_true (show (i : Int) < (now.length : Int) by omega), cond_true, T_queue_Queue.eta, hf, Option.bind_some, hwi, getI_nat, hx, hw]
      by_cases h2 : k' + i < L.length
      · have hg : getI (L.drop k) (IntKind.wrap .u64 (((b + k' + i : Nat) : Int) - ((b + k : Nat) : Int))) = some now[i] := by
          refine getI_of (i := k' + i - k) ?_ ?_
          · rw [wr_u64 ⟨by omega, by omega⟩]; omega
          · rw [List.getElem?_drop, show k + (k' + i - k) = k' + i by omega]
            rw [hx, List.getElem?_append_left h2] at hx2
            exact hx2.symm
        simp only [decide_eq_true (show ((b + k' + i : Nat) : Int) < ((b + L.length : Nat) : Int) by omega), cond_true, hg, Option.bind_some, bne_self_eq_false, cond_false]
        exact ih
      · simp only [decide_eq_false (show ¬ ((b + k' + i : Nat) : Int) < ((b + L.length : Nat) : Int) by omega), cond_false, Option.bind_some]
        exact ih
    · simp only [decide_eq_false (show ¬ (i : Int) < (now.length : Int) by omega), cond_false]

theorem at_law (h : QOk b k L) {p : Nat} {x : Int} : m_hindcastlaw24_at F (qOf b k L) (p : Int) x = some ((atv b k L p).2 && ((atv b k L p).1 == x)) := by
  simp only [m_hindcastlaw24_at, at_q h, Option.bind_some]
  cases (atv b k L p).2 <;> simp

theorem stays_at {k' : Nat} {e : List Int} (h : QOk b k L) (h' : QOk b k' (L ++ e)) (hk : k ≤ k') (fl : Bool) : ∀ (m f : Nat), b + k' ≤ f → b + L.length - f < m →
    m_hindcastlaw24_QueueStays_L91 F ((b + k : Nat) : Int) ((b + L.length : Nat) : Int) (L.drop k) (qOf b k' (L ++ e)).first_ (qOf b k' (L ++ e)).l (qOf b k' (L ++ e)).last fl m (f : Int) = some (.inl fl)
  | 0, f, _, hm => by omega
  | m + 1, f, hf, hm => by
    have := h.k; have := h.u; have := h'.k; have := h'.u
    rw [m_hindcastlaw24_QueueStays_L91.eq_2]
    by_cases h1 : f < b + L.length
    · have hw : IntKind.wrap .u64 ((f : Int) + 1) = ((f + 1 : Nat) : Int) := by rw [wr_u64 ⟨by omega, by omega⟩]; omega
      have h2 : f - b < L.length := by omega
      have hg : getI (L.drop k) (IntKind.wrap .u64 ((f : Int) - ((b + k : Nat) : Int))) = some (L.getD (f - b) 0) := by
        refine getI_of (i := f - b - k) ?_ ?_
        · rw [wr_u64 ⟨by omega, by omega⟩]; omega
        · rw [List.getElem?_drop, show k + (f - b - k) = f - b by omega]
          simp [h2]
      have ha : atv b k' (L ++ e) f = (L.getD (f - b) 0, true) := by
        unfold atv
        rw [if_neg (by simp; omega)]
        simp [List.getElem?_append_left h2]
      have ih := stays_at h h' hk fl m (f + 1) (by omega) (by omega)
      simp only [decide_eq_true (show (f : Int) < ((b + L.length : Nat) : Int) by omega), cond_true, hg, Option.bind_some, T_queue_Queue.eta, at_law h', ha, beq_self_eq_true, Bool.and_self, Bool.not_true, cond_false, hw]
      exact ih
    · simp only [decide_eq_false (show ¬ (f : Int) < ((b + L.length : Nat) : Int) by omega), cond_false]

structure ActOk (a : T_hindcastlaw24_Act) : Prop where
  F : 0 ≤ a.F ∧ a.F ≤ 18446744073709551615

theorem stays_loop {acts : List T_hindcastlaw24_Act} (hF : 1000 ≤ F) (ha : ∀ a ∈ acts, ActOk a) (hl : acts.length ≤ 200) : ∀ (m j k : Nat) (L : List Int), QOk b k L → L.length - k ≤ 24 → L.length ≤ j → j ≤ acts.length → acts.length - j < m →
    ∃ s, m_hindcastlaw24_QueueStays_L24 F acts m (j : Int) (qOf b k L).first_ (qOf b k L).l (qOf b k L).last = some (.inl (false, s))
  | 0, j, k, L, h, h24, hj, hja, hm => by omega
  | m + 1, j, k, L, h, h24, hj, hja, hm => by
    have := h.k; have := h.u; have := h.s
    rw [m_hindcastlaw24_QueueStays_L24.eq_2]
    by_cases h1 : j < acts.length
    · obtain ⟨a, hx⟩ : ∃ a, acts[j]? = some a := ⟨_, List.getElem?_eq_getElem h1⟩
      have hok := ha a (List.mem_of_getElem? hx)
      obtain ⟨f, hf⟩ := Int.eq_ofNat_of_zero_le hok.F.1
      have hf2 : f ≤ 18446744073709551615 := by have := hok.F.2; omega
      have hw : IntKind.wrap .i64 ((j : Int) + 1) = ((j + 1 : Nat) : Int) := by rw [wr_i64 ⟨by omega, by omega⟩]; omega
      have hfst : ∀ k' L', m_queue_Queue_First F (qOf b k' L') = some ((b + k' : Nat) : Int) := fun _ _ => rfl
      have hlen : IntKind.wrap .u64 ((L.drop k).length : Int) = IntKind.wrap .u64 (((b + L.length : Nat) : Int) - ((b + k : Nat) : Int)) := by congr 1; simp; omega
      have h25 : decide ((24 : Int) < ((L.drop k).length : Int)) = false := decide_eq_false (by simp; omega)
      have tail : ∀ (k' : Nat) (e : List Int), QOk b k' (L ++ e) → k ≤ k' → (L ++ e).length - k' ≤ 24 → (L ++ e).length ≤ j + 1 → ∃ s,
          (Option.bind (m_queue_Queue_Known F (qOf b k' (L ++ e))) fun v67 => (Option.bind (cond (decide (v67 < ((b + L.length : Nat) : Int))) (some (true)) ((Option.bind
            (m_queue_Queue_First F (qOf b k' (L ++ e))) fun v72 => some ((decide (v72 < ((b + k : Nat) : Int))))))) fun v75 =>
            (Option.bind (cond v75 (some (true)) ((Option.bind (m_queue_Queue_First F (qOf b k' (L ++ e))) fun v78
            => (Option.bind (m_queue_Queue_Known F (qOf b k' (L ++ e))) fun v80 => some ((decide (v80 < v78)))))))
            fun v82 => (cond v82 (some (.inr false)) (Option.bind (m_queue_Queue_First F (qOf b k' (L ++ e))) fun
            v85 => (Option.bind (m_queue_Queue_Slice F (qOf b k' (L ++ e)) v85 (1000 : Int)) fun v86 => (Option.bind
            (m_hindcastlaw24_QueueStays_L67 F ((b + k : Nat) : Int) ((b + L.length : Nat) : Int) (L.drop k) (qOf b k' (L ++ e)).first_ (qOf b k' (L ++ e)).l (qOf b k' (L ++ e)).last F (0 : Int) v86) (orE (fun l68_4 => (Option.bind
            (m_queue_Queue_First F (qOf b k' (L ++ e))) fun v118 => (Option.bind (m_hindcastlaw24_QueueStays_L91 F
            ((b + k : Nat) : Int) ((b + L.length : Nat) : Int) (L.drop k) (qOf b k' (L ++ e)).first_ (qOf b k' (L ++ e)).l (qOf b k' (L ++ e)).last l68_4 F v118) (orE (fun l92_4 => m_hindcastlaw24_QueueStays_L24 F acts m (IntKind.wrap .i64
            ((j : Int) + (1 : Int))) (qOf b k' (L ++ e)).first_ (qOf b k' (L ++ e)).l (qOf b k' (L ++ e)).last) (fun r92 => some (.inr r92)))))) (fun r68 => some (.inr r68)))))))))) = some (.inl (false, s)) := by
        intro k' e h' hk h24' hl'
        have q1 := h'.k; have q2 := h'.u
        obtain ⟨s, ih⟩ := stays_loop hF ha hl m (j + 1) k' (L ++ e) h' h24' hl' (by omega) (by omega)
        refine ⟨s, ?_⟩
        have ea : (L ++ e).length = L.length + e.length := List.length_append
        have c1 : decide (((b + (L ++ e).length : Nat) : Int) < ((b + L.length : Nat) : Int)) = false := decide_eq_false (by omega)
        have c2 : decide (((b + k' : Nat) : Int) < ((b + k : Nat) : Int)) = false := decide_eq_false (by omega)
        have c3 : decide (((b + (L ++ e).length : Nat) : Int) < ((b + k' : Nat) : Int)) = false := decide_eq_false (by omega)
        have i1 := stays_in (F := F) h h' hk F 0 ((L ++ e).drop k') (by simp) (by omega) (fun j _ => by rw [List.getElem?_drop]) (by simp; omega)
        have i2 := stays_at (F := F) h h' hk false F (b + k') (Nat.le_refl _) (by omega)
        simp only [known_q h', hfst, c1, c2, c3, cond_false, Option.bind_some, slice_all h' h24']
        rw [show (0 : Int) = ((0 : Nat) : Int) from rfl, i1]
        simp only [Option.bind_some, orE_l]
        rw [i2]
        simp only [Option.bind_some, orE_l, hw, ih]
      simp only [decide_eq_true (show (j : Int) < (acts.length : Int) by omega), cond_true, getI_nat, hx, Option.bind_some, T_queue_Queue.eta, hfst, known_q h, slice_all h h24, hlen, bne_self_eq_false, cond_false, h25]
      cases (decide (Int.tmod a.What 4 < 3))
      · simp only [cond_false, hf, drop_q h, Option.bind_some]
        have hd := dropv_ok h (p := f)
        have hdk : k ≤ dropv b k L f := by unfold dropv; split <;> omega
        have := tail (dropv b k L f) [] (by simpa using hd) hdk (by simp; omega) (by simp; omega)
        simpa only [List.append_nil] using this
      · obtain ⟨e, he⟩ := addv_ext (b := b) (k := k) (L := L) (p := f) (i := a.I)
        have ho := addv_ok h (p := f) (i := a.I) (by omega)
        have h4 := addv_24 (b := b) (L := L) (p := f) (i := a.I) h.k h24
        simp only [cond_true, hf, add_q h, Option.bind_some]
        rw [he] at ho h4 ⊢
        exact tail k e ho.1 (Nat.le_refl _) h4 (by omega)
    · simp only [decide_eq_false (show ¬ (j : Int) < (acts.length : Int) by omega), cond_false]
      exact ⟨_, rfl⟩

theorem stays_works : m_hindcastlaw24_works 1000 = some true := by kernel_rfl

theorem queueStays_pure {b : Int} (hb : 0 ≤ b ∧ b ≤ 18446744073709551615) {acts : List T_hindcastlaw24_Act} (ha : ∀ a ∈ acts, ActOk a) : m_hindcastlaw24_QueueStays 1000 b acts = some true := by
  obtain ⟨b, rfl⟩ := Int.eq_ofNat_of_zero_le hb.1
  simp only [m_hindcastlaw24_QueueStays, m_queue_New, Option.bind_some, stays_works]
  by_cases h1 : (200 : Int) < (acts.length : Int)
  · simp only [decide_eq_true h1, cond_true]
  · obtain ⟨s, hs⟩ := stays_loop (F := 1000) (b := b) (by omega) ha (by omega) 1000 0 0 [] ⟨by simp, by simp; omega, by simp⟩ (by simp) (by simp) (by omega) (by omega)
    simp only [decide_eq_false h1, cond_false]
    have hs' : m_hindcastlaw24_QueueStays_L24 1000 acts 1000 0 (b : Int) [] 0 = some (.inl (false, s)) := hs
    rw [hs']
    rfl

theorem act_rd {w : World} {m : Nat} {cs : List Value} (h : Rdw TT w (m + 2) 40 cs) : ∃ x : T_hindcastlaw24_Act, cs = c_T_hindcastlaw24_Act x ∧ ActOk x := by
  obtain ⟨hl, hf⟩ := rd_struct h rfl
  match cs, hl with
  | [a, b, c, d, e], _ =>
    obtain ⟨x, rfl, wx⟩ := rd_cell (hf (5, 0) (by simp)) rfl
    obtain ⟨y, rfl, wy⟩ := rd_cell (hf (22, 1) (by simp)) rfl
    obtain ⟨u, rfl, wu⟩ := rd_cell (hf (22, 2) (by simp)) rfl
    obtain ⟨v, rfl, wv⟩ := rd_cell (hf (31, 3) (by simp)) rfl
    obtain ⟨z, rfl, wz⟩ := rd_cell (hf (3, 4) (by simp)) rfl
    exact ⟨⟨x, y, u, v, z⟩, rfl, ⟨wf_u64 wy⟩⟩

theorem queueStays_walk (W : World) (v0 v1 : Value) (R0 : Rdw TT W 8 22 [v0]) (R1 : Rdw TT W 8 36 [v1]) : Calls Try.prog 5 #[v0, v1] W fun e w' => e = .returned (.bool true) ∧ Inv W [] w' [] := by
  obtain ⟨b, rfl, wf⟩ := rd_cell R0 rfl
  obtain ⟨a, n, cap, xs, rfl, hn, hc, _, hr, hok⟩ := rd_list (enc := c_T_hindcastlaw24_Act) (ok := ActOk) R1 rfl rfl c_T_hindcastlaw24_Act_len (fun es _ h => act_rd h)
  exact (k_hindcastlaw24_QueueStays hn hc (queueStays_pure (wf_u64 wf) hok)).run W hr

set_option maxRecDepth 100000 in
theorem queueStays_lifted (os : Os) (started : os.Started) (H : Type) (enc : TypeId × Value → H) :
    ReturnsInHanded {} Try.checked os 5 .any (Rows.queueStaysSpec.pre6 enc Try.prog Try.f5 Rows.queueStaysRow.domain false) (Rows.queueStaysSpec.post enc Try.prog Try.f5 false true false false) := by
  refine returnsInHanded_of_change_sized (C := Try.checked) (by kernel_rfl) started (by kernel_rfl) Try.func5
    (ChangeSpec.witness6 (enc := enc) (C := Try.checked) false ⟨#[], #[.int .u64 0, .slice none 0 0], []⟩ 8 (by kernel_rfl) (by kernel_rfl) (by kernel_rfl) (by kernel_rfl)) ?_
  intro W base args ds gs before hval0 hW hcnd hsz0 _
  have hval : ∀ (j : Nat) t v, Try.f5.params[j]? = some t → args[j]? = some v → Value.okWide Try.prog W .any base t v := hval0
  have hW' := hW
  obtain ⟨p, q, hA0, hV, rfl, hfz, hnd⟩ := hW
  have hA : DataW.TrodAll enc Try.prog W 0 (fun _ => true) true Try.f5.params.toList args.toList ds p := hA0
  obtain ⟨rfl, rfl⟩ := trodVars_none hV
  have hsz : ∀ x ∈ DataW.weightsEach Try.prog Try.f5.params.toList ds, x ≤ maxB := by
    have h1 : (DataW.weightsEach Try.prog (Try.f5.params.toList ++ []) (ds ++ [])).all (· ≤ reachBytes) = true := hsz0
    simp only [List.append_nil] at h1
    intro x hx; have h2 := List.all_eq_true.1 h1 x hx; simp only [decide_eq_true_eq] at h2; exact h2
  rw [Try.params5] at hA hval hsz
  have hR := rdw_all tt_ok ctt_ok (closed_of tt_closed) (fun _ => rfl) 8 hA hsz
  have hback := fun (W2 : World) (hb : Below W.heap.size W W2) => trodAll_below (by kernel_rfl : laidOutB Try.prog = true) hb (by kernel_rfl) hA
  obtain ⟨v0, vs0, d0, ds0, p0, q0, hargs, rfl, rfl, h0, r0⟩ := trodAll_cons hA
  obtain ⟨v1, vs1, d1, ds1, p1, q1, rfl, rfl, rfl, h1, r1⟩ := trodAll_cons r0
  obtain ⟨rfl, rfl, rfl⟩ := trodAll_nil r1
  obtain rfl : args = #[v0, v1] := by cases args; simp_all
  have R0 := hR 0 22 v0 rfl rfl
  have e0 := val_one tt_ok (t := 22) rfl (by intro h; cases h) rfl (hval 0 22 v0 rfl rfl)
  rw [e0] at R0
  have R1 := hR 1 36 v1 rfl rfl
  have e1 := val_one tt_ok (t := 36) rfl (by intro h; cases h) rfl (hval 1 36 v1 rfl rfl)
  rw [e1] at R1
  clear hval hval0 hsz hsz0 hR hA0
  refine (queueStays_walk W v0 v1 R0 R1).mono fun e W2 ⟨he, hI⟩ => ?_
  subst he
  exact ⟨_, rfl, _, _, _, [], _, [], hW', trodAll_mk1 (shut_bool Try.underlying4 _), hback _ (below_of_inv hI), rfl, (below_of_inv hI).frame _, fun h => by cases h⟩

theorem queueStays_holds : Rows.QueueStaysSaid :=
  OpenClaim.holds_of_wide 5 Try.f5 rfl rfl rfl rfl rfl rfl rfl ⟨rfl, rfl, rfl, rfl, rfl⟩ rfl rfl rfl rfl rfl (by kernel_rfl) Try.func5 (by kernel_rfl)
    (of_decide_eq_true (by kernel_rfl)) (by unfold Func.isWrapper; first | (rw [if_pos (by decide +kernel)]; kernel_rfl) | (rw [if_neg (by decide +kernel)]; exact ⟨rfl, rfl⟩))
    (fun os started H enc _ => queueStays_lifted os started H enc)

end Go.Proofs.Ytfjmhnfaoifehaa
