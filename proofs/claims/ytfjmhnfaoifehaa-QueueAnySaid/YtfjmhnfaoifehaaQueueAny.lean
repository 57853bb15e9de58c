/-
  Chapter 24 (queue): the law QueueAny.
-/
import Derived.Test.YtfjmhnfaoifehaaQueueLaw
namespace Go.Proofs.Ytfjmhnfaoifehaa
open Go.Proofs.Ytfjmhnfaoifehaa.Eng Go.RowKit Go.ChangeShapes Go.WideShapes Go.ChangeAt
set_option linter.unusedSimpArgs false
set_option linter.unusedVariables false
set_option maxHeartbeats 4000000

/-! ### Plain laws -/
def lastY (ys : List Int) (j : Nat) : Int := if j = 0 then 0 else ys.getD (j - 1) 0
def st (ys : List Int) (j : Nat) : List Int × Int := (ys.take j, lastY ys j)

theorem st_len (ys : List Int) (j : Nat) (h : j ≤ ys.length) : (st ys j).1.length = j := by simp [st]; omega

theorem next_eq (fr : Int) (ys : List Int) (j k : Nat) (y : Int) (hy : ys[k]? = some y) (h0 : 0 ≤ fr ∧ fr < 1152921504606846976) (hn : ys.length ≤ 24) (h64 : y < 64) (hj : j ≤ ys.length) :
    qNext fr (st ys j) (fr + k) y = if k = j then st ys (j + 1) else st ys j := by
  have hk := (List.getElem?_eq_some_iff.1 hy).1
  have hl := st_len ys j hj
  unfold qNext
  rw [hl]
  by_cases e : k = j
  · subst e
    rw [if_pos ⟨h64, rfl, by omega, by omega⟩, if_pos rfl]
    unfold st lastY
    simp only [Nat.add_one_ne_zero, if_false, Nat.add_sub_cancel]
    rw [List.take_add_one, hy]
    simp [List.getD, hy]
  · rw [if_neg (by omega), if_neg e]

theorem err_eq (fr : Int) (ys : List Int) (j k : Nat) (y : Int) (hy : ys[k]? = some y) (h0 : 0 ≤ fr ∧ fr < 1152921504606846976) (hn : ys.length ≤ 24) (h64 : y < 64) (hj : j ≤ ys.length) :
    qErr fr (st ys j).1 (fr + k) y = if k ≤ j then 0 else 11 := by
  have hk := (List.getElem?_eq_some_iff.1 hy).1
  have hl := st_len ys j hj
  unfold qErr
  rw [hl]
  rw [if_neg (by omega), if_neg (by omega)]
  by_cases e : k < j
  · have e1 : (fr + k - fr).toNat = k := by omega
    have e2 : (st ys j).1.getD k 0 = y := by simp [st, List.getD, List.getElem?_take, e, hy]
    rw [if_pos (show fr + (k : Int) < fr + (j : Int) by omega), e1, if_pos e2, if_pos (show k ≤ j by omega)]
  · rw [if_neg (by omega)]
    by_cases e2 : k = j
    · rw [if_neg (by omega), if_neg (by omega), if_pos (by omega)]
    · rw [if_pos (by omega), if_neg (by omega)]

section
variable {P : Program} {T : List (Nat × TI)} {E : List (Nat × Value)} {n : Nat} {w0 : World} {A : List Nat} {L : List Blk}
theorem val_at_s (hT : TabOk P T) {t e : TypeId} {s1 b1 size by' : Nat} {z1 z : Option (List Value)} {td : TD} {x i : Operand} {a : Option Addr} {ad : Addr} {len cap j : Nat} {k : IntKind} {v : Int} {ty : TypeId}
    (hlt : lookT T t = some ⟨.slice e, s1, b1, z1⟩) (hle : lookT T e = some ⟨td, size, by', z⟩)
    (hx : evO E x = some (.slice a len cap)) (hi : evO E i = some (.int k v)) (hv : v = (j : Int)) (hj : j < len) (ha : a = some ad) :
    Val P w0 A n E L (.indexAddr t x i) ty (.pointer (some (ad.add (j * size)))) := val_at_old hT hlt hle (ha ▸ hx) hi hv hj
end

/-- The bytes xs of an argument's slice. -/
structure SL (w : World) (a : Option Addr) (ad : Addr) (xs : List Int) : Prop where
  at_ : xs ≠ [] → a = some ad
  old : Old w [] ad (u8s xs)
  byte : ∀ (j : Nat) (x : Int), xs[j]? = some x → 0 ≤ x ∧ x ≤ 255

theorem rd_bytes {w : World} {m : Nat} {t e : TypeId} {sz by' b1 : Nat} {z z' : Option (List Value)} {v : Value} (h : Rdw TT w (m + 2) t [v])
    (hl : lookT TT t = some ⟨.slice e, sz, by', z⟩) (he : lookT TT e = some ⟨.int .u8, 1, b1, z'⟩) : ∃ a ad xs cap, v = .slice a xs.length cap ∧ SL w a ad xs := by
  obtain ⟨a, len, cap, hc, hlc, _, hall⟩ := rd_slice h hl he
  obtain rfl : v = .slice a len cap := by simpa using hc
  have key : ∀ k, k ≤ len → ∃ xs : List Int, xs.length = k ∧ ∀ i x, xs[i]? = some x → ∃ b, a = some b ∧ b.block < w.heap.size ∧ w.cell? (b.add i) = some (.int .u8 x) ∧ 0 ≤ x ∧ x ≤ 255 := by
    intro k
    induction k with
    | zero => exact fun _ => ⟨[], rfl, fun i x h => by simp at h⟩
    | succ k ih =>
      intro hk
      obtain ⟨xs, hx, hxs⟩ := ih (by omega)
      obtain ⟨b, es, ha, hes, hcell, hblk, hr⟩ := hall k (by omega)
      obtain ⟨c, rfl⟩ : ∃ c, es = [c] := List.length_eq_one_iff.1 hes
      obtain ⟨y, rfl, hy⟩ := rd_cell hr he
      refine ⟨xs ++ [y], by simp [hx], fun i x hi => ?_⟩
      rcases Nat.lt_or_ge i xs.length with h1 | h1
      · rw [List.getElem?_append_left h1] at hi; exact hxs i x hi
      · rw [List.getElem?_append_right h1] at hi
        have hi0 : i - xs.length = 0 := by
          rcases Nat.eq_zero_or_pos (i - xs.length) with h2 | h2
          · exact h2
          · rw [List.getElem?_eq_none (by simp; omega)] at hi; cases hi
        rw [hi0] at hi
        simp at hi
        subst hi
        obtain rfl : i = k := by omega
        exact ⟨b, ha, hblk 0 (by omega), by simpa using hcell 0 (.int .u8 y) rfl, wf_u8 hy⟩
  obtain ⟨xs, hx, hxs⟩ := key len (Nat.le_refl _)
  subst hx
  cases a with
  | none =>
    have : xs = [] := by
      cases xs with
      | nil => rfl
      | cons x r => obtain ⟨b, hb, _⟩ := hxs 0 x rfl; cases hb
    subst this
    exact ⟨none, ⟨0, 0, none⟩, [], cap, rfl, fun h => absurd rfl h, ⟨fun h => absurd rfl h, by simp, fun j u h => by simp at h⟩, fun j x h => by simp at h⟩
  | some ad =>
    refine ⟨some ad, ad, xs, cap, rfl, fun _ => rfl, ⟨fun h => ?_, by simp, fun j u hu => ?_⟩, fun j x hj => ?_⟩
    · cases xs with
      | nil => simp [u8s] at h
      | cons x r => obtain ⟨b, hb, h1, _⟩ := hxs 0 x rfl; cases hb; exact h1
    · simp only [u8s, List.getElem?_map, Option.map_eq_some_iff] at hu
      obtain ⟨x, hx, rfl⟩ := hu
      obtain ⟨b, hb, _, h2, _⟩ := hxs j x hx
      cases hb
      exact h2
    · obtain ⟨b, hb, _, _, h3⟩ := hxs j x hj
      exact h3

/-- The live variables of the law, behind its first lines. -/
abbrev EQ (first : Int) (a1 a2 : Option Addr) (n1 n2 cap1 cap2 : Nat) (fr : Int) (b : Nat) : List (Nat × Value) :=
  [(7, .int .u64 fr), (8, .pointer (some ⟨b, 0, none⟩)), (0, .int .u64 first), (1, .slice a1 n1 cap1), (2, .slice a2 n2 cap2), (6, .bool false)]

theorem queueAny_core (first : Int) (xs os : List Int) (a1 a2 : Option Addr) (ad1 ad2 : Addr) (cap1 cap2 : Nat) (hf : U64 first) :
    Pf Try.prog 3 [.int .u64 first, .slice a1 xs.length cap1, .slice a2 os.length cap2] (fun w => SL w a1 ad1 xs ∧ SL w a2 ad2 os) (.bool true) := by
  have hm : 0 ≤ first.tmod 1152921504606846976 ∧ first.tmod 1152921504606846976 < 1152921504606846976 := ⟨Int.tmod_nonneg _ hf.1, Int.tmod_lt_of_pos _ (by decide)⟩
  obtain ⟨ys, hys⟩ : ∃ ys, ys = xs.map (fun x => x.tmod 64) := ⟨_, rfl⟩
  have hyl : ys.length = xs.length := by rw [hys]; simp
  refine pf_of_wc Try.func3 rfl Try.ntmps3 rfl rfl (fun w0 hR => ?_)
  repeat' (first
    | ((with_reducible (apply wl_id)); first
      | (apply wl_arith tt_ok; rfl; rfl; (first | ((with_reducible refine fit_div_i64 ?_ ?_) <;> omega) | ((with_reducible refine fit_div_i32 ?_ ?_) <;> omega) | ((with_reducible refine fit_div_u64 ?_ ?_) <;> omega) | ((with_reducible refine fit_i64 ?_); omega) | ((with_reducible refine fit_i32 ?_); omega) | ((with_reducible refine fit_u64 ?_); omega) | ((with_reducible refine fit_u8 ?_); omega) | ((with_reducible refine fit_u32 ?_); omega) | ((with_reducible refine fit_u16 ?_); omega) | rfl); rfl)
      | (apply wl_boolish tt_ok; rfl; rfl; (first | (with_reducible first | exact bb_not_t | exact bb_not_f | exact bb_eq_t _ | exact bb_eq_f _ | exact bb_t_eq _ | exact bb_f_eq _ | exact bb_ne_t _ | exact bb_ne_f _ | exact bb_t_ne _ | exact bb_f_ne _ | exact bb_same _ | exact bb_nsame _ | exact bi_same _ | exact bi_nsame _) | rfl); rfl)
      | (refine wl_pure tt_ok rfl rfl ?_)
      | (apply wl_load tt_ok; rfl; (repeat (first | exact List.Mem.head _ | apply List.Mem.tail)); rfl; rfl)
      | (refine wl_pf Try.call7 rfl rfl rfl (works_any) (fun _ _ => trivial) rfl ?_)
      | ((apply wl_spL Try.call8; rfl; rfl; rfl; exact qNew _; rfl); rintro _ _ ⟨b, rfl, rfl⟩)
      | ((apply wl_spL Try.call10; rfl; rfl; rfl; exact qAdd _ _ _ _ _ _ (by assumption) (by omega) (by rw [st_len _ _ (by omega)]; omega) (by omega) (by omega); rfl); rintro _ _ ⟨rfl, hQ⟩)
      | ((apply wl_rd Try.call9; rfl; rfl; rfl; exact sub_refl; exact qKnownS _ _ _ _ (by assumption) (by omega) (by rw [st_len _ _ (by omega)]; omega)); rfl)
      | ((apply wl_rd Try.call12; rfl; rfl; rfl; exact sub_refl; exact qGuess _ _ _ _ _ (by assumption) (by omega) (by rw [st_len _ _ (by omega)]; omega) (by omega)); rfl)
      | ((apply wl_rd Try.call11; rfl; rfl; rfl; exact sub_refl; exact qat_any _ _ _ _ _ _ (by assumption) (by omega) (by rw [st_len _ _ (by omega)]; omega) (by omega)); rfl)
      | ((apply wl_rd Try.call13; rfl; rfl; rfl; exact sub_refl; exact qno_any _ _ _ _ _ (by assumption) (by omega) (by rw [st_len _ _ (by omega)]; omega) (by omega)); rfl)
      | (apply wl_store tt_ok; rfl; (repeat (first | exact Upd.here | apply Upd.there)); rfl; rfl; rfl; rfl; rfl; rfl)
      | (refine wl_box rfl rfl rfl (fun _ => ?_))
      | (apply wl_build1 tt_ok; rfl; rfl; rfl; rfl; rfl; intro _)
      | (refine wl_alloc tt_ok rfl rfl (fun _ => ?_))
      | (apply wl_yes; rfl; rfl; (with_reducible rfl))
      | (apply wl_no_t; rfl; rfl; (with_reducible rfl); rfl)
      | (apply wl_no_f; rfl; rfl; (with_reducible rfl); rfl)
      | (apply wl_no_u; rfl; rfl; rfl)
      | (refine wl_guard rfl rfl (fun hc => ?_) (fun hc => ?_) <;> (first | (exfalso; contradiction) | ((try simp only [decide_eq_true_eq, decide_eq_false_iff_not, beq_iff_eq, bne_iff_ne, beq_eq_false_iff_ne, bne_eq_false_iff_eq, ne_eq, Decidable.not_not, Bool.not_eq_true', Bool.not_eq_false', Int.not_lt, Int.not_le] at hc); first | (exfalso; omega) | (exfalso; revert hc; decide) | skip)))
      | (with_reducible refine wl_nil ?_))
    | ((with_reducible (apply wc_id)); first
      | (with_reducible refine wc_seq ?_)
      | (with_reducible refine wc_region ?_)
      | (with_reducible refine wc_ret ?_)
      | (refine wc_cond rfl (fun hc => ?_) (fun hc => ?_) <;> (first | (exfalso; contradiction) | ((try simp only [decide_eq_true_eq, decide_eq_false_iff_not, beq_iff_eq, bne_iff_ne, beq_eq_false_iff_ne, bne_eq_false_iff_eq, ne_eq, Decidable.not_not, Bool.not_eq_true', Bool.not_eq_false', Int.not_lt, Int.not_le] at hc); first | (exfalso; omega) | (exfalso; revert hc; decide) | skip)))
      | (with_reducible refine wc_block ?_)
      | (with_reducible refine wc_skip ?_)
      | (with_reducible refine wc_exit ?_)
      | (with_reducible refine wc_quiet (by kernel_rfl) (by kernel_rfl) ?_))
    | ((with_reducible (apply wx_id)); first
      | (with_reducible refine wx_then ?_)
      | (with_reducible refine wx_block ?_)
      | (with_reducible refine wx_block_exit ?_)
      | (with_reducible refine wx_block_other (by rfl) ?_)
      | (with_reducible refine wx_block_ret ?_)
      | (with_reducible refine wx_then_exit ?_)
      | (with_reducible refine wx_then_ret ?_)
      | ((with_reducible (apply wx_pf tt_ok)); (first | exact .inl rfl | exact .inr rfl); (first | exact Try.results3 | rfl); (repeat (first | exact Res.nil | (apply Res.tmp; rfl) | (apply Res.cell; rfl; (repeat (first | exact List.Mem.head _ | apply List.Mem.tail)); rfl))))
      | ((with_reducible (apply wx_rd tt_ok)); (first | exact .inl rfl | exact .inr rfl); (first | exact Try.results3 | rfl); (repeat (first | exact Res.nil | (apply Res.tmp; rfl) | (apply Res.cell; rfl; (repeat (first | exact List.Mem.head _ | apply List.Mem.tail)); rfl))); (first | exact sub_refl | exact sub_drop1 | exact sub_drop2 | exact sub_keeps (ps := [0]) rfl | exact sub_keeps (ps := [1]) rfl | exact sub_keeps (ps := [2]) rfl | exact sub_keeps (ps := [3]) rfl | exact sub_keeps (ps := [0, 0]) rfl | exact sub_keeps (ps := [1, 0]) rfl | exact sub_keeps (ps := [1, 1]) rfl | exact sub_keeps (ps := [0, 1]) rfl | exact sub_keeps (ps := [2, 0]) rfl | exact sub_keeps (ps := [0, 2]) rfl | exact sub_keeps (ps := [2, 1]) rfl | exact sub_keeps (ps := [1, 2]) rfl | exact sub_keeps (ps := [2, 2]) rfl); (first | rfl | skip)))
    | ((with_reducible (apply wq_id)); first
      | (apply wq_arith tt_ok; rfl; rfl; (first | ((with_reducible refine fit_div_i64 ?_ ?_) <;> omega) | ((with_reducible refine fit_div_i32 ?_ ?_) <;> omega) | ((with_reducible refine fit_div_u64 ?_ ?_) <;> omega) | ((with_reducible refine fit_i64 ?_); omega) | ((with_reducible refine fit_i32 ?_); omega) | ((with_reducible refine fit_u64 ?_); omega) | ((with_reducible refine fit_u8 ?_); omega) | ((with_reducible refine fit_u32 ?_); omega) | ((with_reducible refine fit_u16 ?_); omega) | rfl); rfl)
      | (apply wq_boolish tt_ok; rfl; rfl; (first | (with_reducible first | exact bb_not_t | exact bb_not_f | exact bb_eq_t _ | exact bb_eq_f _ | exact bb_t_eq _ | exact bb_f_eq _ | exact bb_ne_t _ | exact bb_ne_f _ | exact bb_t_ne _ | exact bb_f_ne _ | exact bb_same _ | exact bb_nsame _ | exact bi_same _ | exact bi_nsame _) | rfl); rfl)
      | (refine wq_pure tt_ok rfl rfl ?_)
      | (apply wq_load tt_ok; rfl; (repeat (first | exact List.Mem.head _ | apply List.Mem.tail)); rfl; rfl)
      | (refine wq_pf Try.call7 rfl rfl rfl (works_any) (fun _ _ => trivial) rfl ?_)
      | ((apply wl_spL Try.call8; rfl; rfl; rfl; exact qNew _; rfl); rintro _ _ ⟨b, rfl, rfl⟩)
      | ((apply wl_spL Try.call10; rfl; rfl; rfl; exact qAdd _ _ _ _ _ _ (by assumption) (by omega) (by rw [st_len _ _ (by omega)]; omega) (by omega) (by omega); rfl); rintro _ _ ⟨rfl, hQ⟩)
      | ((apply wl_rd Try.call9; rfl; rfl; rfl; exact sub_refl; exact qKnownS _ _ _ _ (by assumption) (by omega) (by rw [st_len _ _ (by omega)]; omega)); rfl)
      | ((apply wl_rd Try.call12; rfl; rfl; rfl; exact sub_refl; exact qGuess _ _ _ _ _ (by assumption) (by omega) (by rw [st_len _ _ (by omega)]; omega) (by omega)); rfl)
      | ((apply wl_rd Try.call11; rfl; rfl; rfl; exact sub_refl; exact qat_any _ _ _ _ _ _ (by assumption) (by omega) (by rw [st_len _ _ (by omega)]; omega) (by omega)); rfl)
      | ((apply wl_rd Try.call13; rfl; rfl; rfl; exact sub_refl; exact qno_any _ _ _ _ _ (by assumption) (by omega) (by rw [st_len _ _ (by omega)]; omega) (by omega)); rfl)
      | (apply wq_yes; rfl; rfl; (with_reducible rfl))
      | (apply wq_no_t; rfl; rfl; (with_reducible rfl); rfl)
      | (apply wq_no_f; rfl; rfl; (with_reducible rfl); rfl)
      | (apply wq_no_u; rfl; rfl; rfl)
      | (refine wq_guard rfl rfl (fun hc => ?_) (fun hc => ?_) <;> (first | (exfalso; contradiction) | ((try simp only [decide_eq_true_eq, decide_eq_false_iff_not, beq_iff_eq, bne_iff_ne, beq_eq_false_iff_ne, bne_eq_false_iff_eq, ne_eq, Decidable.not_not, Bool.not_eq_true', Bool.not_eq_false', Int.not_lt, Int.not_le] at hc); first | (exfalso; omega) | (exfalso; revert hc; decide) | skip)))
      | (with_reducible refine wq_nil ?_)))
  · rfl
  · rfl
  · generalize first.tmod 1152921504606846976 = fr at hm ⊢
    have hQ0 : QSt b fr (st ys 0) [QB b fr (.slice none 0 0) 0] := by simpa [st, lastY] using qst_new b fr
    generalize [QB b fr (.slice none 0 0) 0] = L0 at hQ0 ⊢
    refine wc_loop (E' := (9, .int .i64 0) :: EQ first a1 a2 xs.length os.length cap1 cap2 fr b) (L' := L0)
      (fun m E L => ∃ (i j : Nat), i ≤ os.length ∧ m = os.length - i ∧ j ≤ ys.length ∧ QSt b fr (st ys j) L ∧ E = (9, .int .i64 i) :: EQ first a1 a2 xs.length os.length cap1 cap2 fr b)
      os.length ⟨0, 0, by omega, by omega, by omega, hQ0, rfl⟩ (by repeat (first | exact agree_nil | (apply agree_cons; rfl))) sub_refl ?_
    rintro m E L ⟨i, j, hi, rfl, hj, hQ, rfl⟩
    have hlast : os.length ≤ i ∨ i < os.length := by omega
    by_cases hgo : i < os.length ∧ 0 < xs.length
    · obtain ⟨hgo1, hgo2⟩ := hgo
      obtain ⟨o, hoo⟩ : ∃ o, os[i]? = some o := ⟨_, List.getElem?_eq_getElem hgo1⟩
      have ho : (u8s os)[i * 1]? = some (.int .u8 o) := by simp [u8s, hoo]
      have hob := hR.2.byte i o hoo
      have ha2 : a2 = some ad2 := hR.2.at_ (by intro h; subst h; simp at hgo1)
      have ha1 : a1 = some ad1 := hR.1.at_ (by intro h; subst h; simp at hgo2)
      obtain ⟨k, hk⟩ : ∃ k : Nat, (k : Int) = o.tmod xs.length := ⟨(o.tmod xs.length).toNat, Int.toNat_of_nonneg (Int.tmod_nonneg _ hob.1)⟩
      have hkn : k < xs.length := by have := Int.tmod_lt_of_pos o (show (0 : Int) < xs.length by omega); omega
      obtain ⟨x, hxx⟩ : ∃ x, xs[k]? = some x := ⟨_, List.getElem?_eq_getElem hkn⟩
      have hx : (u8s xs)[k * 1]? = some (.int .u8 x) := by simp [u8s, hxx]
      have hxb := hR.1.byte k x hxx
      have hy : ys[k]? = some (x.tmod 64) := by rw [hys]; simp [hxx]
      have hx64 : 0 ≤ x.tmod 64 ∧ x.tmod 64 < 64 := ⟨Int.tmod_nonneg _ hxb.1, Int.tmod_lt_of_pos _ (by decide)⟩
      have hnx := next_eq fr ys j k _ hy hm (by omega) hx64.2 hj
      have her := err_eq fr ys j k _ hy hm (by omega) hx64.2 hj
      have hkl := st_len ys j hj
      obtain ⟨n', hn'⟩ : ∃ n', xs.length = n' + 1 := ⟨xs.length - 1, by omega⟩
      rw [hn'] at hk hkn ⊢
      obtain ⟨j', hj', hnx⟩ : ∃ j', ((j' = j ∧ k ≠ j) ∨ (j' = j + 1 ∧ k = j)) ∧ qNext fr (st ys j) (fr + k) (x.tmod 64) = st ys j' := by
        by_cases e : k = j
        · exact ⟨j + 1, .inr ⟨rfl, e⟩, by rw [hnx, if_pos e]⟩
        · exact ⟨j, .inl ⟨rfl, e⟩, by rw [hnx, if_neg e]⟩
      have hkl' := st_len ys j' (by omega)
      have hfin : i + 1 ≤ os.length := hgo1
      have her2 : (k ≤ j ∧ qErr fr (st ys j).1 (fr + k) (x.tmod 64) = 0) ∨ (j < k ∧ qErr fr (st ys j).1 (fr + k) (x.tmod 64) = 11) := by
        rcases Nat.lt_or_ge j k with e | e
        · exact .inr ⟨e, by rw [her, if_neg (by omega)]⟩
        · exact .inl ⟨e, by rw [her, if_pos e]⟩
      clear her
      rcases her2 with ⟨hjk, her⟩ | ⟨hjk, her⟩
      all_goals skip
      all_goals
        (skip
         repeat' (first
    | ((with_reducible (apply wl_id)); first
      | (apply wl_arith tt_ok; rfl; rfl; (first | ((with_reducible refine fit_div_i64 ?_ ?_) <;> omega) | ((with_reducible refine fit_div_i32 ?_ ?_) <;> omega) | ((with_reducible refine fit_div_u64 ?_ ?_) <;> omega) | ((with_reducible refine fit_i64 ?_); omega) | ((with_reducible refine fit_i32 ?_); omega) | ((with_reducible refine fit_u64 ?_); omega) | ((with_reducible refine fit_u8 ?_); omega) | ((with_reducible refine fit_u32 ?_); omega) | ((with_reducible refine fit_u16 ?_); omega) | rfl); rfl)
      | (apply wl_boolish tt_ok; rfl; rfl; (first | (with_reducible first | exact bb_not_t | exact bb_not_f | exact bb_eq_t _ | exact bb_eq_f _ | exact bb_t_eq _ | exact bb_f_eq _ | exact bb_ne_t _ | exact bb_ne_f _ | exact bb_t_ne _ | exact bb_f_ne _ | exact bb_same _ | exact bb_nsame _ | exact bi_same _ | exact bi_nsame _) | rfl); rfl)
      | (refine wl_pure tt_ok rfl rfl ?_)
      | (apply wl_load tt_ok; rfl; (repeat (first | exact List.Mem.head _ | apply List.Mem.tail)); rfl; rfl)
      | ((apply wl_spL Try.call10; rfl; rfl; rfl; exact qAdd _ _ _ _ _ _ (by assumption) (by omega) (by rw [st_len _ _ (by omega)]; omega) (by omega) (by omega); rfl); rintro _ _ ⟨rfl, hQ⟩; rw [← hk] at hQ ⊢; rw [hnx] at hQ; rw [her])
      | (refine wl_pf Try.call7 rfl rfl rfl (works_any) (fun _ _ => trivial) rfl ?_)
      | ((apply wl_spL Try.call8; rfl; rfl; rfl; exact qNew _; rfl); rintro _ _ ⟨b, rfl, rfl⟩)
      | ((apply wl_spL Try.call10; rfl; rfl; rfl; exact qAdd _ _ _ _ _ _ (by assumption) (by omega) (by rw [st_len _ _ (by omega)]; omega) (by omega) (by omega); rfl); rintro _ _ ⟨rfl, hQ⟩)
      | ((apply wl_rd Try.call9; rfl; rfl; rfl; exact sub_refl; exact qKnownS _ _ _ _ (by assumption) (by omega) (by rw [st_len _ _ (by omega)]; omega)); rfl)
      | ((apply wl_rd Try.call12; rfl; rfl; rfl; exact sub_refl; exact qGuess _ _ _ _ _ (by assumption) (by omega) (by rw [st_len _ _ (by omega)]; omega) (by omega)); rfl)
      | ((apply wl_rd Try.call11; rfl; rfl; rfl; exact sub_refl; exact qat_any _ _ _ _ _ _ (by assumption) (by omega) (by rw [st_len _ _ (by omega)]; omega) (by omega)); rfl)
      | ((apply wl_rd Try.call13; rfl; rfl; rfl; exact sub_refl; exact qno_any _ _ _ _ _ (by assumption) (by omega) (by rw [st_len _ _ (by omega)]; omega) (by omega)); rfl)
      | ((apply wl_val (val_at_s (j := i) (ad := ad2) tt_ok rfl rfl rfl rfl rfl (by omega) ha2)); rfl)
      | ((apply wl_val (val_load_old tt_ok rfl hR.2.old rfl rfl ho)); rfl)
      | ((apply wl_val (val_at_s (j := k) (ad := ad1) tt_ok rfl rfl rfl rfl (by omega) (by omega) ha1)); rfl)
      | ((apply wl_val (val_load_old tt_ok rfl hR.1.old rfl rfl hx)); rfl)
      | (apply wl_store tt_ok; rfl; (repeat (first | exact Upd.here | apply Upd.there)); rfl; rfl; rfl; rfl; rfl; rfl)
      | (refine wl_box rfl rfl rfl (fun _ => ?_))
      | (apply wl_build1 tt_ok; rfl; rfl; rfl; rfl; rfl; intro _)
      | (refine wl_alloc tt_ok rfl rfl (fun _ => ?_))
      | (apply wl_yes; rfl; rfl; (with_reducible rfl))
      | (apply wl_no_t; rfl; rfl; (with_reducible rfl); rfl)
      | (apply wl_no_f; rfl; rfl; (with_reducible rfl); rfl)
      | (apply wl_no_u; rfl; rfl; rfl)
      | (refine wl_guard rfl rfl (fun hc => ?_) (fun hc => ?_) <;> (first | (exfalso; contradiction) | ((try simp only [decide_eq_true_eq, decide_eq_false_iff_not, beq_iff_eq, bne_iff_ne, beq_eq_false_iff_ne, bne_eq_false_iff_eq, ne_eq, Decidable.not_not, Bool.not_eq_true', Bool.not_eq_false', Int.not_lt, Int.not_le] at hc); first | (exfalso; omega) | (exfalso; revert hc; decide) | skip)))
      | (with_reducible refine wl_nil ?_))
    | ((with_reducible (apply wc_id)); first
      | (with_reducible refine wc_seq ?_)
      | (with_reducible refine wc_region ?_)
      | (with_reducible refine wc_ret ?_)
      | (refine wc_cond rfl (fun hc => ?_) (fun hc => ?_) <;> (first | (exfalso; contradiction) | ((try simp only [decide_eq_true_eq, decide_eq_false_iff_not, beq_iff_eq, bne_iff_ne, beq_eq_false_iff_ne, bne_eq_false_iff_eq, ne_eq, Decidable.not_not, Bool.not_eq_true', Bool.not_eq_false', Int.not_lt, Int.not_le] at hc); first | (exfalso; omega) | (exfalso; revert hc; decide) | skip)))
      | (with_reducible refine wc_block ?_)
      | (with_reducible refine wc_skip ?_)
      | (with_reducible refine wc_exit ?_)
      | (with_reducible refine wc_quiet (by kernel_rfl) (by kernel_rfl) ?_))
    | ((with_reducible (apply wx_id)); first
      | (with_reducible refine wx_then ?_)
      | (with_reducible refine wx_block ?_)
      | (with_reducible refine wx_block_exit ?_)
      | (with_reducible refine wx_block_other (by rfl) ?_)
      | (with_reducible refine wx_block_ret ?_)
      | (with_reducible refine wx_then_exit ?_)
      | (with_reducible refine wx_then_ret ?_)
      | ((with_reducible (apply wx_pf tt_ok)); (first | exact .inl rfl | exact .inr rfl); (first | exact Try.results3 | rfl); (repeat (first | exact Res.nil | (apply Res.tmp; rfl) | (apply Res.cell; rfl; (repeat (first | exact List.Mem.head _ | apply List.Mem.tail)); rfl))))
      | ((with_reducible (apply wx_rd tt_ok)); (first | exact .inl rfl | exact .inr rfl); (first | exact Try.results3 | rfl); (repeat (first | exact Res.nil | (apply Res.tmp; rfl) | (apply Res.cell; rfl; (repeat (first | exact List.Mem.head _ | apply List.Mem.tail)); rfl))); (first | exact sub_refl | exact sub_drop1 | exact sub_drop2 | exact sub_keeps (ps := [0]) rfl | exact sub_keeps (ps := [1]) rfl | exact sub_keeps (ps := [2]) rfl | exact sub_keeps (ps := [3]) rfl | exact sub_keeps (ps := [0, 0]) rfl | exact sub_keeps (ps := [1, 0]) rfl | exact sub_keeps (ps := [1, 1]) rfl | exact sub_keeps (ps := [0, 1]) rfl | exact sub_keeps (ps := [2, 0]) rfl | exact sub_keeps (ps := [0, 2]) rfl | exact sub_keeps (ps := [2, 1]) rfl | exact sub_keeps (ps := [1, 2]) rfl | exact sub_keeps (ps := [2, 2]) rfl); (first | rfl | skip)))
    | ((with_reducible (apply wq_id)); first
      | (apply wq_arith tt_ok; rfl; rfl; (first | ((with_reducible refine fit_div_i64 ?_ ?_) <;> omega) | ((with_reducible refine fit_div_i32 ?_ ?_) <;> omega) | ((with_reducible refine fit_div_u64 ?_ ?_) <;> omega) | ((with_reducible refine fit_i64 ?_); omega) | ((with_reducible refine fit_i32 ?_); omega) | ((with_reducible refine fit_u64 ?_); omega) | ((with_reducible refine fit_u8 ?_); omega) | ((with_reducible refine fit_u32 ?_); omega) | ((with_reducible refine fit_u16 ?_); omega) | rfl); rfl)
      | (apply wq_boolish tt_ok; rfl; rfl; (first | (with_reducible first | exact bb_not_t | exact bb_not_f | exact bb_eq_t _ | exact bb_eq_f _ | exact bb_t_eq _ | exact bb_f_eq _ | exact bb_ne_t _ | exact bb_ne_f _ | exact bb_t_ne _ | exact bb_f_ne _ | exact bb_same _ | exact bb_nsame _ | exact bi_same _ | exact bi_nsame _) | rfl); rfl)
      | (refine wq_pure tt_ok rfl rfl ?_)
      | (apply wq_load tt_ok; rfl; (repeat (first | exact List.Mem.head _ | apply List.Mem.tail)); rfl; rfl)
      | ((apply wl_spL Try.call10; rfl; rfl; rfl; exact qAdd _ _ _ _ _ _ (by assumption) (by omega) (by rw [st_len _ _ (by omega)]; omega) (by omega) (by omega); rfl); rintro _ _ ⟨rfl, hQ⟩; rw [← hk] at hQ ⊢; rw [hnx] at hQ; rw [her])
      | (refine wq_pf Try.call7 rfl rfl rfl (works_any) (fun _ _ => trivial) rfl ?_)
      | ((apply wl_spL Try.call8; rfl; rfl; rfl; exact qNew _; rfl); rintro _ _ ⟨b, rfl, rfl⟩)
      | ((apply wl_spL Try.call10; rfl; rfl; rfl; exact qAdd _ _ _ _ _ _ (by assumption) (by omega) (by rw [st_len _ _ (by omega)]; omega) (by omega) (by omega); rfl); rintro _ _ ⟨rfl, hQ⟩)
      | ((apply wl_rd Try.call9; rfl; rfl; rfl; exact sub_refl; exact qKnownS _ _ _ _ (by assumption) (by omega) (by rw [st_len _ _ (by omega)]; omega)); rfl)
      | ((apply wl_rd Try.call12; rfl; rfl; rfl; exact sub_refl; exact qGuess _ _ _ _ _ (by assumption) (by omega) (by rw [st_len _ _ (by omega)]; omega) (by omega)); rfl)
      | ((apply wl_rd Try.call11; rfl; rfl; rfl; exact sub_refl; exact qat_any _ _ _ _ _ _ (by assumption) (by omega) (by rw [st_len _ _ (by omega)]; omega) (by omega)); rfl)
      | ((apply wl_rd Try.call13; rfl; rfl; rfl; exact sub_refl; exact qno_any _ _ _ _ _ (by assumption) (by omega) (by rw [st_len _ _ (by omega)]; omega) (by omega)); rfl)
      | ((apply wq_val (val_at_s (j := i) (ad := ad2) tt_ok rfl rfl rfl rfl rfl (by omega) ha2)); rfl)
      | ((apply wq_val (val_load_old tt_ok rfl hR.2.old rfl rfl ho)); rfl)
      | ((apply wq_val (val_at_s (j := k) (ad := ad1) tt_ok rfl rfl rfl rfl (by omega) (by omega) ha1)); rfl)
      | ((apply wq_val (val_load_old tt_ok rfl hR.1.old rfl rfl hx)); rfl)
      | (apply wq_yes; rfl; rfl; (with_reducible rfl))
      | (apply wq_no_t; rfl; rfl; (with_reducible rfl); rfl)
      | (apply wq_no_f; rfl; rfl; (with_reducible rfl); rfl)
      | (apply wq_no_u; rfl; rfl; rfl)
      | (refine wq_guard rfl rfl (fun hc => ?_) (fun hc => ?_) <;> (first | (exfalso; contradiction) | ((try simp only [decide_eq_true_eq, decide_eq_false_iff_not, beq_iff_eq, bne_iff_ne, beq_eq_false_iff_ne, bne_eq_false_iff_eq, ne_eq, Decidable.not_not, Bool.not_eq_true', Bool.not_eq_false', Int.not_lt, Int.not_le] at hc); first | (exfalso; omega) | (exfalso; revert hc; decide) | skip)))
      | (with_reducible refine wq_nil ?_))))
      all_goals first | (exfalso; omega) | (exact wx_round (E' := (9, .int .i64 ((i + 1 : Nat) : Int)) :: EQ first a1 a2 (n' + 1) os.length cap1 cap2 fr b) (os.length - (i + 1)) (by omega) ⟨i + 1, j', by omega, rfl, by omega, hQ, rfl⟩ (by repeat (first | exact agree_nil | (apply agree_cons; rfl))) sub_refl)
    · repeat' (first
    | ((with_reducible (apply wl_id)); first
      | (apply wl_arith tt_ok; rfl; rfl; (first | ((with_reducible refine fit_div_i64 ?_ ?_) <;> omega) | ((with_reducible refine fit_div_i32 ?_ ?_) <;> omega) | ((with_reducible refine fit_div_u64 ?_ ?_) <;> omega) | ((with_reducible refine fit_i64 ?_); omega) | ((with_reducible refine fit_i32 ?_); omega) | ((with_reducible refine fit_u64 ?_); omega) | ((with_reducible refine fit_u8 ?_); omega) | ((with_reducible refine fit_u32 ?_); omega) | ((with_reducible refine fit_u16 ?_); omega) | rfl); rfl)
      | (apply wl_boolish tt_ok; rfl; rfl; (first | (with_reducible first | exact bb_not_t | exact bb_not_f | exact bb_eq_t _ | exact bb_eq_f _ | exact bb_t_eq _ | exact bb_f_eq _ | exact bb_ne_t _ | exact bb_ne_f _ | exact bb_t_ne _ | exact bb_f_ne _ | exact bb_same _ | exact bb_nsame _ | exact bi_same _ | exact bi_nsame _) | rfl); rfl)
      | (refine wl_pure tt_ok rfl rfl ?_)
      | (apply wl_load tt_ok; rfl; (repeat (first | exact List.Mem.head _ | apply List.Mem.tail)); rfl; rfl)
      | (refine wl_pf Try.call7 rfl rfl rfl (works_any) (fun _ _ => trivial) rfl ?_)
      | ((apply wl_spL Try.call8; rfl; rfl; rfl; exact qNew _; rfl); rintro _ _ ⟨b, rfl, rfl⟩)
      | ((apply wl_spL Try.call10; rfl; rfl; rfl; exact qAdd _ _ _ _ _ _ (by assumption) (by omega) (by rw [st_len _ _ (by omega)]; omega) (by omega) (by omega); rfl); rintro _ _ ⟨rfl, hQ⟩)
      | ((apply wl_rd Try.call9; rfl; rfl; rfl; exact sub_refl; exact qKnownS _ _ _ _ (by assumption) (by omega) (by rw [st_len _ _ (by omega)]; omega)); rfl)
      | ((apply wl_rd Try.call12; rfl; rfl; rfl; exact sub_refl; exact qGuess _ _ _ _ _ (by assumption) (by omega) (by rw [st_len _ _ (by omega)]; omega) (by omega)); rfl)
      | ((apply wl_rd Try.call11; rfl; rfl; rfl; exact sub_refl; exact qat_any _ _ _ _ _ _ (by assumption) (by omega) (by rw [st_len _ _ (by omega)]; omega) (by omega)); rfl)
      | ((apply wl_rd Try.call13; rfl; rfl; rfl; exact sub_refl; exact qno_any _ _ _ _ _ (by assumption) (by omega) (by rw [st_len _ _ (by omega)]; omega) (by omega)); rfl)
      | (apply wl_store tt_ok; rfl; (repeat (first | exact Upd.here | apply Upd.there)); rfl; rfl; rfl; rfl; rfl; rfl)
      | (refine wl_box rfl rfl rfl (fun _ => ?_))
      | (apply wl_build1 tt_ok; rfl; rfl; rfl; rfl; rfl; intro _)
      | (refine wl_alloc tt_ok rfl rfl (fun _ => ?_))
      | (apply wl_yes; rfl; rfl; (with_reducible rfl))
      | (apply wl_no_t; rfl; rfl; (with_reducible rfl); rfl)
      | (apply wl_no_f; rfl; rfl; (with_reducible rfl); rfl)
      | (apply wl_no_u; rfl; rfl; rfl)
      | (refine wl_guard rfl rfl (fun hc => ?_) (fun hc => ?_) <;> (first | (exfalso; contradiction) | ((try simp only [decide_eq_true_eq, decide_eq_false_iff_not, beq_iff_eq, bne_iff_ne, beq_eq_false_iff_ne, bne_eq_false_iff_eq, ne_eq, Decidable.not_not, Bool.not_eq_true', Bool.not_eq_false', Int.not_lt, Int.not_le] at hc); first | (exfalso; omega) | (exfalso; revert hc; decide) | skip)))
      | (with_reducible refine wl_nil ?_))
    | ((with_reducible (apply wc_id)); first
      | (with_reducible refine wc_seq ?_)
      | (with_reducible refine wc_region ?_)
      | (with_reducible refine wc_ret ?_)
      | (refine wc_cond rfl (fun hc => ?_) (fun hc => ?_) <;> (first | (exfalso; contradiction) | ((try simp only [decide_eq_true_eq, decide_eq_false_iff_not, beq_iff_eq, bne_iff_ne, beq_eq_false_iff_ne, bne_eq_false_iff_eq, ne_eq, Decidable.not_not, Bool.not_eq_true', Bool.not_eq_false', Int.not_lt, Int.not_le] at hc); first | (exfalso; omega) | (exfalso; revert hc; decide) | skip)))
      | (with_reducible refine wc_block ?_)
      | (with_reducible refine wc_skip ?_)
      | (with_reducible refine wc_exit ?_)
      | (with_reducible refine wc_quiet (by kernel_rfl) (by kernel_rfl) ?_))
    | ((with_reducible (apply wx_id)); first
      | (with_reducible refine wx_then ?_)
      | (with_reducible refine wx_block ?_)
      | (with_reducible refine wx_block_exit ?_)
      | (with_reducible refine wx_block_other (by rfl) ?_)
      | (with_reducible refine wx_block_ret ?_)
      | (with_reducible refine wx_then_exit ?_)
      | (with_reducible refine wx_then_ret ?_)
      | ((with_reducible (apply wx_pf tt_ok)); (first | exact .inl rfl | exact .inr rfl); (first | exact Try.results3 | rfl); (repeat (first | exact Res.nil | (apply Res.tmp; rfl) | (apply Res.cell; rfl; (repeat (first | exact List.Mem.head _ | apply List.Mem.tail)); rfl))))
      | ((with_reducible (apply wx_rd tt_ok)); (first | exact .inl rfl | exact .inr rfl); (first | exact Try.results3 | rfl); (repeat (first | exact Res.nil | (apply Res.tmp; rfl) | (apply Res.cell; rfl; (repeat (first | exact List.Mem.head _ | apply List.Mem.tail)); rfl))); (first | exact sub_refl | exact sub_drop1 | exact sub_drop2 | exact sub_keeps (ps := [0]) rfl | exact sub_keeps (ps := [1]) rfl | exact sub_keeps (ps := [2]) rfl | exact sub_keeps (ps := [3]) rfl | exact sub_keeps (ps := [0, 0]) rfl | exact sub_keeps (ps := [1, 0]) rfl | exact sub_keeps (ps := [1, 1]) rfl | exact sub_keeps (ps := [0, 1]) rfl | exact sub_keeps (ps := [2, 0]) rfl | exact sub_keeps (ps := [0, 2]) rfl | exact sub_keeps (ps := [2, 1]) rfl | exact sub_keeps (ps := [1, 2]) rfl | exact sub_keeps (ps := [2, 2]) rfl); (first | rfl | skip)))
    | ((with_reducible (apply wq_id)); first
      | (apply wq_arith tt_ok; rfl; rfl; (first | ((with_reducible refine fit_div_i64 ?_ ?_) <;> omega) | ((with_reducible refine fit_div_i32 ?_ ?_) <;> omega) | ((with_reducible refine fit_div_u64 ?_ ?_) <;> omega) | ((with_reducible refine fit_i64 ?_); omega) | ((with_reducible refine fit_i32 ?_); omega) | ((with_reducible refine fit_u64 ?_); omega) | ((with_reducible refine fit_u8 ?_); omega) | ((with_reducible refine fit_u32 ?_); omega) | ((with_reducible refine fit_u16 ?_); omega) | rfl); rfl)
      | (apply wq_boolish tt_ok; rfl; rfl; (first | (with_reducible first | exact bb_not_t | exact bb_not_f | exact bb_eq_t _ | exact bb_eq_f _ | exact bb_t_eq _ | exact bb_f_eq _ | exact bb_ne_t _ | exact bb_ne_f _ | exact bb_t_ne _ | exact bb_f_ne _ | exact bb_same _ | exact bb_nsame _ | exact bi_same _ | exact bi_nsame _) | rfl); rfl)
      | (refine wq_pure tt_ok rfl rfl ?_)
      | (apply wq_load tt_ok; rfl; (repeat (first | exact List.Mem.head _ | apply List.Mem.tail)); rfl; rfl)
      | (refine wq_pf Try.call7 rfl rfl rfl (works_any) (fun _ _ => trivial) rfl ?_)
      | ((apply wl_spL Try.call8; rfl; rfl; rfl; exact qNew _; rfl); rintro _ _ ⟨b, rfl, rfl⟩)
      | ((apply wl_spL Try.call10; rfl; rfl; rfl; exact qAdd _ _ _ _ _ _ (by assumption) (by omega) (by rw [st_len _ _ (by omega)]; omega) (by omega) (by omega); rfl); rintro _ _ ⟨rfl, hQ⟩)
      | ((apply wl_rd Try.call9; rfl; rfl; rfl; exact sub_refl; exact qKnownS _ _ _ _ (by assumption) (by omega) (by rw [st_len _ _ (by omega)]; omega)); rfl)
      | ((apply wl_rd Try.call12; rfl; rfl; rfl; exact sub_refl; exact qGuess _ _ _ _ _ (by assumption) (by omega) (by rw [st_len _ _ (by omega)]; omega) (by omega)); rfl)
      | ((apply wl_rd Try.call11; rfl; rfl; rfl; exact sub_refl; exact qat_any _ _ _ _ _ _ (by assumption) (by omega) (by rw [st_len _ _ (by omega)]; omega) (by omega)); rfl)
      | ((apply wl_rd Try.call13; rfl; rfl; rfl; exact sub_refl; exact qno_any _ _ _ _ _ (by assumption) (by omega) (by rw [st_len _ _ (by omega)]; omega) (by omega)); rfl)
      | (apply wq_yes; rfl; rfl; (with_reducible rfl))
      | (apply wq_no_t; rfl; rfl; (with_reducible rfl); rfl)
      | (apply wq_no_f; rfl; rfl; (with_reducible rfl); rfl)
      | (apply wq_no_u; rfl; rfl; rfl)
      | (refine wq_guard rfl rfl (fun hc => ?_) (fun hc => ?_) <;> (first | (exfalso; contradiction) | ((try simp only [decide_eq_true_eq, decide_eq_false_iff_not, beq_iff_eq, bne_iff_ne, beq_eq_false_iff_ne, bne_eq_false_iff_eq, ne_eq, Decidable.not_not, Bool.not_eq_true', Bool.not_eq_false', Int.not_lt, Int.not_le] at hc); first | (exfalso; omega) | (exfalso; revert hc; decide) | skip)))
      | (with_reducible refine wq_nil ?_)))
      all_goals
        (refine wc_loop (E' := (13, .int .i64 0) :: EQ first a1 a2 xs.length os.length cap1 cap2 fr b) (L' := L)
          (fun m E L => ∃ (kk j : Nat), kk ≤ xs.length ∧ m = xs.length - kk ∧ j ≤ ys.length ∧ (0 < kk → j = ys.length) ∧ QSt b fr (st ys j) L ∧ E = (13, .int .i64 kk) :: EQ first a1 a2 xs.length os.length cap1 cap2 fr b)
          xs.length ⟨0, j, by omega, by omega, hj, by omega, hQ, rfl⟩ (by repeat (first | exact agree_nil | (apply agree_cons; rfl))) sub_refl ?_
         clear hQ hj hlast hgo hi
         rintro m E L ⟨kk, j, hkk, rfl, hj, hkj, hQ, rfl⟩
         by_cases hgo : kk < xs.length)
      all_goals (try repeat' (first
    | ((with_reducible (apply wl_id)); first
      | (apply wl_arith tt_ok; rfl; rfl; (first | ((with_reducible refine fit_div_i64 ?_ ?_) <;> omega) | ((with_reducible refine fit_div_i32 ?_ ?_) <;> omega) | ((with_reducible refine fit_div_u64 ?_ ?_) <;> omega) | ((with_reducible refine fit_i64 ?_); omega) | ((with_reducible refine fit_i32 ?_); omega) | ((with_reducible refine fit_u64 ?_); omega) | ((with_reducible refine fit_u8 ?_); omega) | ((with_reducible refine fit_u32 ?_); omega) | ((with_reducible refine fit_u16 ?_); omega) | rfl); rfl)
      | (apply wl_boolish tt_ok; rfl; rfl; (first | (with_reducible first | exact bb_not_t | exact bb_not_f | exact bb_eq_t _ | exact bb_eq_f _ | exact bb_t_eq _ | exact bb_f_eq _ | exact bb_ne_t _ | exact bb_ne_f _ | exact bb_t_ne _ | exact bb_f_ne _ | exact bb_same _ | exact bb_nsame _ | exact bi_same _ | exact bi_nsame _) | rfl); rfl)
      | (refine wl_pure tt_ok rfl rfl ?_)
      | (apply wl_load tt_ok; rfl; (repeat (first | exact List.Mem.head _ | apply List.Mem.tail)); rfl; rfl)
      | (refine wl_pf Try.call7 rfl rfl rfl (works_any) (fun _ _ => trivial) rfl ?_)
      | ((apply wl_spL Try.call8; rfl; rfl; rfl; exact qNew _; rfl); rintro _ _ ⟨b, rfl, rfl⟩)
      | ((apply wl_spL Try.call10; rfl; rfl; rfl; exact qAdd _ _ _ _ _ _ (by assumption) (by omega) (by rw [st_len _ _ (by omega)]; omega) (by omega) (by omega); rfl); rintro _ _ ⟨rfl, hQ⟩)
      | ((apply wl_rd Try.call9; rfl; rfl; rfl; exact sub_refl; exact qKnownS _ _ _ _ (by assumption) (by omega) (by rw [st_len _ _ (by omega)]; omega)); rfl)
      | ((apply wl_rd Try.call12; rfl; rfl; rfl; exact sub_refl; exact qGuess _ _ _ _ _ (by assumption) (by omega) (by rw [st_len _ _ (by omega)]; omega) (by omega)); rfl)
      | ((apply wl_rd Try.call11; rfl; rfl; rfl; exact sub_refl; exact qat_any _ _ _ _ _ _ (by assumption) (by omega) (by rw [st_len _ _ (by omega)]; omega) (by omega)); rfl)
      | ((apply wl_rd Try.call13; rfl; rfl; rfl; exact sub_refl; exact qno_any _ _ _ _ _ (by assumption) (by omega) (by rw [st_len _ _ (by omega)]; omega) (by omega)); rfl)
      | (apply wl_store tt_ok; rfl; (repeat (first | exact Upd.here | apply Upd.there)); rfl; rfl; rfl; rfl; rfl; rfl)
      | (refine wl_box rfl rfl rfl (fun _ => ?_))
      | (apply wl_build1 tt_ok; rfl; rfl; rfl; rfl; rfl; intro _)
      | (refine wl_alloc tt_ok rfl rfl (fun _ => ?_))
      | (apply wl_yes; rfl; rfl; (with_reducible rfl))
      | (apply wl_no_t; rfl; rfl; (with_reducible rfl); rfl)
      | (apply wl_no_f; rfl; rfl; (with_reducible rfl); rfl)
      | (apply wl_no_u; rfl; rfl; rfl)
      | (refine wl_guard rfl rfl (fun hc => ?_) (fun hc => ?_) <;> (first | (exfalso; contradiction) | ((try simp only [decide_eq_true_eq, decide_eq_false_iff_not, beq_iff_eq, bne_iff_ne, beq_eq_false_iff_ne, bne_eq_false_iff_eq, ne_eq, Decidable.not_not, Bool.not_eq_true', Bool.not_eq_false', Int.not_lt, Int.not_le] at hc); first | (exfalso; omega) | (exfalso; revert hc; decide) | skip)))
      | (with_reducible refine wl_nil ?_))
    | ((with_reducible (apply wc_id)); first
      | (with_reducible refine wc_seq ?_)
      | (with_reducible refine wc_region ?_)
      | (with_reducible refine wc_ret ?_)
      | (refine wc_cond rfl (fun hc => ?_) (fun hc => ?_) <;> (first | (exfalso; contradiction) | ((try simp only [decide_eq_true_eq, decide_eq_false_iff_not, beq_iff_eq, bne_iff_ne, beq_eq_false_iff_ne, bne_eq_false_iff_eq, ne_eq, Decidable.not_not, Bool.not_eq_true', Bool.not_eq_false', Int.not_lt, Int.not_le] at hc); first | (exfalso; omega) | (exfalso; revert hc; decide) | skip)))
      | (with_reducible refine wc_block ?_)
      | (with_reducible refine wc_skip ?_)
      | (with_reducible refine wc_exit ?_)
      | (with_reducible refine wc_quiet (by kernel_rfl) (by kernel_rfl) ?_))
    | ((with_reducible (apply wx_id)); first
      | (with_reducible refine wx_then ?_)
      | (with_reducible refine wx_block ?_)
      | (with_reducible refine wx_block_exit ?_)
      | (with_reducible refine wx_block_other (by rfl) ?_)
      | (with_reducible refine wx_block_ret ?_)
      | (with_reducible refine wx_then_exit ?_)
      | (with_reducible refine wx_then_ret ?_)
      | ((with_reducible (apply wx_pf tt_ok)); (first | exact .inl rfl | exact .inr rfl); (first | exact Try.results3 | rfl); (repeat (first | exact Res.nil | (apply Res.tmp; rfl) | (apply Res.cell; rfl; (repeat (first | exact List.Mem.head _ | apply List.Mem.tail)); rfl))))
      | ((with_reducible (apply wx_rd tt_ok)); (first | exact .inl rfl | exact .inr rfl); (first | exact Try.results3 | rfl); (repeat (first | exact Res.nil | (apply Res.tmp; rfl) | (apply Res.cell; rfl; (repeat (first | exact List.Mem.head _ | apply List.Mem.tail)); rfl))); (first | exact sub_refl | exact sub_drop1 | exact sub_drop2 | exact sub_keeps (ps := [0]) rfl | exact sub_keeps (ps := [1]) rfl | exact sub_keeps (ps := [2]) rfl | exact sub_keeps (ps := [3]) rfl | exact sub_keeps (ps := [0, 0]) rfl | exact sub_keeps (ps := [1, 0]) rfl | exact sub_keeps (ps := [1, 1]) rfl | exact sub_keeps (ps := [0, 1]) rfl | exact sub_keeps (ps := [2, 0]) rfl | exact sub_keeps (ps := [0, 2]) rfl | exact sub_keeps (ps := [2, 1]) rfl | exact sub_keeps (ps := [1, 2]) rfl | exact sub_keeps (ps := [2, 2]) rfl); (first | rfl | skip)))
    | ((with_reducible (apply wq_id)); first
      | (apply wq_arith tt_ok; rfl; rfl; (first | ((with_reducible refine fit_div_i64 ?_ ?_) <;> omega) | ((with_reducible refine fit_div_i32 ?_ ?_) <;> omega) | ((with_reducible refine fit_div_u64 ?_ ?_) <;> omega) | ((with_reducible refine fit_i64 ?_); omega) | ((with_reducible refine fit_i32 ?_); omega) | ((with_reducible refine fit_u64 ?_); omega) | ((with_reducible refine fit_u8 ?_); omega) | ((with_reducible refine fit_u32 ?_); omega) | ((with_reducible refine fit_u16 ?_); omega) | rfl); rfl)
      | (apply wq_boolish tt_ok; rfl; rfl; (first | (with_reducible first | exact bb_not_t | exact bb_not_f | exact bb_eq_t _ | exact bb_eq_f _ | exact bb_t_eq _ | exact bb_f_eq _ | exact bb_ne_t _ | exact bb_ne_f _ | exact bb_t_ne _ | exact bb_f_ne _ | exact bb_same _ | exact bb_nsame _ | exact bi_same _ | exact bi_nsame _) | rfl); rfl)
      | (refine wq_pure tt_ok rfl rfl ?_)
      | (apply wq_load tt_ok; rfl; (repeat (first | exact List.Mem.head _ | apply List.Mem.tail)); rfl; rfl)
      | (refine wq_pf Try.call7 rfl rfl rfl (works_any) (fun _ _ => trivial) rfl ?_)
      | ((apply wl_spL Try.call8; rfl; rfl; rfl; exact qNew _; rfl); rintro _ _ ⟨b, rfl, rfl⟩)
      | ((apply wl_spL Try.call10; rfl; rfl; rfl; exact qAdd _ _ _ _ _ _ (by assumption) (by omega) (by rw [st_len _ _ (by omega)]; omega) (by omega) (by omega); rfl); rintro _ _ ⟨rfl, hQ⟩)
      | ((apply wl_rd Try.call9; rfl; rfl; rfl; exact sub_refl; exact qKnownS _ _ _ _ (by assumption) (by omega) (by rw [st_len _ _ (by omega)]; omega)); rfl)
      | ((apply wl_rd Try.call12; rfl; rfl; rfl; exact sub_refl; exact qGuess _ _ _ _ _ (by assumption) (by omega) (by rw [st_len _ _ (by omega)]; omega) (by omega)); rfl)
      | ((apply wl_rd Try.call11; rfl; rfl; rfl; exact sub_refl; exact qat_any _ _ _ _ _ _ (by assumption) (by omega) (by rw [st_len _ _ (by omega)]; omega) (by omega)); rfl)
      | ((apply wl_rd Try.call13; rfl; rfl; rfl; exact sub_refl; exact qno_any _ _ _ _ _ (by assumption) (by omega) (by rw [st_len _ _ (by omega)]; omega) (by omega)); rfl)
      | (apply wq_yes; rfl; rfl; (with_reducible rfl))
      | (apply wq_no_t; rfl; rfl; (with_reducible rfl); rfl)
      | (apply wq_no_f; rfl; rfl; (with_reducible rfl); rfl)
      | (apply wq_no_u; rfl; rfl; rfl)
      | (refine wq_guard rfl rfl (fun hc => ?_) (fun hc => ?_) <;> (first | (exfalso; contradiction) | ((try simp only [decide_eq_true_eq, decide_eq_false_iff_not, beq_iff_eq, bne_iff_ne, beq_eq_false_iff_ne, bne_eq_false_iff_eq, ne_eq, Decidable.not_not, Bool.not_eq_true', Bool.not_eq_false', Int.not_lt, Int.not_le] at hc); first | (exfalso; omega) | (exfalso; revert hc; decide) | skip)))
      | (with_reducible refine wq_nil ?_))))
      · have hjn : j = ys.length := by omega
        have hst : (st ys j).1 = ys := by subst hjn; simp [st]
        have hla : (st ys j).2 = lastY ys xs.length := by rw [hjn, hyl]; rfl
        have hkn := qKnownS b fr (st ys j) L hQ (by omega) (by rw [hst]; omega)
        have hno := qno_any b (fr + xs.length) fr (st ys j) L hQ (by omega) (by rw [hst]; omega) (by omega)
        have hg2 := qGuess b (fr + xs.length + 5) fr (st ys j) L hQ (by omega) (by rw [hst]; omega) (by omega)
        have v1 : (!(qIn fr (st ys j).1 (fr + xs.length)) && decide (qVal fr (st ys j).1 (fr + xs.length) = 0)) = true := by
          unfold qIn qVal; rw [hst, decide_eq_false (by omega), if_neg (by omega)]; rfl
        have v2 : qGuessV fr (st ys j) (fr + xs.length + 5) = lastY ys xs.length := by unfold qGuessV; rw [hst, if_neg (by omega), hla]
        rw [v1] at hno
        rw [v2] at hg2
        rw [hst, hyl] at hkn
        refine wc_loop (E' := (15, .int .u8 0) :: (16, .int .i64 0) :: EQ first a1 a2 xs.length os.length cap1 cap2 fr b) (L' := L)
          (fun m E L2 => ∃ (k : Nat), k ≤ xs.length ∧ m = xs.length - k ∧ L2 = L ∧ E = (15, .int .u8 (lastY ys k)) :: (16, .int .i64 k) :: EQ first a1 a2 xs.length os.length cap1 cap2 fr b)
          xs.length ⟨0, by omega, by omega, rfl, rfl⟩ (by repeat (first | exact agree_nil | (apply agree_cons; rfl))) sub_refl ?_
        rintro m E L2 ⟨k, hk0, rfl, rfl, rfl⟩
        by_cases hgo3 : k < xs.length
        · have ha1 : a1 = some ad1 := hR.1.at_ (by intro h; subst h; simp at hgo3)
          obtain ⟨x, hxx⟩ : ∃ x, xs[k]? = some x := ⟨_, List.getElem?_eq_getElem hgo3⟩
          have hx : (u8s xs)[k * 1]? = some (.int .u8 x) := by simp [u8s, hxx]
          have hxb := hR.1.byte k x hxx
          have hy : ys[k]? = some (x.tmod 64) := by rw [hys]; simp [hxx]
          have hx64 : 0 ≤ x.tmod 64 ∧ x.tmod 64 < 64 := ⟨Int.tmod_nonneg _ hxb.1, Int.tmod_lt_of_pos _ (by decide)⟩
          have hgd : ys.getD (fr + k - fr).toNat 0 = x.tmod 64 := by
            rw [show (fr + k - fr).toNat = k by omega]; simp [List.getD, hy]
          have hly : lastY ys (k + 1) = x.tmod 64 := by unfold lastY; simp [List.getD, hy]
          have hat := qat_any b (fr + k) fr (x.tmod 64) (st ys j) L2 hQ (by omega) (by rw [hst]; omega) (by omega)
          have v3 : (qIn fr (st ys j).1 (fr + k) && decide (qVal fr (st ys j).1 (fr + k) = x.tmod 64)) = true := by
            unfold qIn qVal; rw [hst, decide_eq_true (by omega), if_pos (by omega), hgd]; simp
          rw [v3] at hat
          have hgs := qGuess b (fr + k) fr (st ys j) L2 hQ (by omega) (by rw [hst]; omega) (by omega)
          have v4 : qGuessV fr (st ys j) (fr + k) = x.tmod 64 := by unfold qGuessV; rw [hst, if_pos (by omega), hgd]
          rw [v4] at hgs
          repeat' (first
    | ((with_reducible (apply wl_id)); first
      | (apply wl_arith tt_ok; rfl; rfl; (first | ((with_reducible refine fit_div_i64 ?_ ?_) <;> omega) | ((with_reducible refine fit_div_i32 ?_ ?_) <;> omega) | ((with_reducible refine fit_div_u64 ?_ ?_) <;> omega) | ((with_reducible refine fit_i64 ?_); omega) | ((with_reducible refine fit_i32 ?_); omega) | ((with_reducible refine fit_u64 ?_); omega) | ((with_reducible refine fit_u8 ?_); omega) | ((with_reducible refine fit_u32 ?_); omega) | ((with_reducible refine fit_u16 ?_); omega) | rfl); rfl)
      | (apply wl_boolish tt_ok; rfl; rfl; (first | (with_reducible first | exact bb_not_t | exact bb_not_f | exact bb_eq_t _ | exact bb_eq_f _ | exact bb_t_eq _ | exact bb_f_eq _ | exact bb_ne_t _ | exact bb_ne_f _ | exact bb_t_ne _ | exact bb_f_ne _ | exact bb_same _ | exact bb_nsame _ | exact bi_same _ | exact bi_nsame _) | rfl); rfl)
      | (refine wl_pure tt_ok rfl rfl ?_)
      | (apply wl_load tt_ok; rfl; (repeat (first | exact List.Mem.head _ | apply List.Mem.tail)); rfl; rfl)
      | ((apply wl_rd Try.call11; rfl; rfl; rfl; exact sub_refl; exact hat); rfl)
      | ((apply wl_rd Try.call12; rfl; rfl; rfl; exact sub_refl; exact hgs); rfl)
      | ((apply wl_val (val_at_s (j := i) (ad := ad2) tt_ok rfl rfl rfl rfl rfl (by omega) ha2)); rfl)
      | ((apply wl_val (val_load_old tt_ok rfl hR.2.old rfl rfl ho)); rfl)
      | ((apply wl_val (val_at_s (j := k) (ad := ad1) tt_ok rfl rfl rfl rfl (by omega) (by omega) ha1)); rfl)
      | ((apply wl_val (val_load_old tt_ok rfl hR.1.old rfl rfl hx)); rfl)
      | (apply wl_store tt_ok; rfl; (repeat (first | exact Upd.here | apply Upd.there)); rfl; rfl; rfl; rfl; rfl; rfl)
      | (refine wl_box rfl rfl rfl (fun _ => ?_))
      | (apply wl_build1 tt_ok; rfl; rfl; rfl; rfl; rfl; intro _)
      | (refine wl_alloc tt_ok rfl rfl (fun _ => ?_))
      | (apply wl_yes; rfl; rfl; (with_reducible rfl))
      | (apply wl_no_t; rfl; rfl; (with_reducible rfl); rfl)
      | (apply wl_no_f; rfl; rfl; (with_reducible rfl); rfl)
      | (apply wl_no_u; rfl; rfl; rfl)
      | (refine wl_guard rfl rfl (fun hc => ?_) (fun hc => ?_) <;> (first | (exfalso; contradiction) | ((try simp only [decide_eq_true_eq, decide_eq_false_iff_not, beq_iff_eq, bne_iff_ne, beq_eq_false_iff_ne, bne_eq_false_iff_eq, ne_eq, Decidable.not_not, Bool.not_eq_true', Bool.not_eq_false', Int.not_lt, Int.not_le] at hc); first | (exfalso; omega) | (exfalso; revert hc; decide) | skip)))
      | (with_reducible refine wl_nil ?_))
    | ((with_reducible (apply wc_id)); first
      | (with_reducible refine wc_seq ?_)
      | (with_reducible refine wc_region ?_)
      | (with_reducible refine wc_ret ?_)
      | (refine wc_cond rfl (fun hc => ?_) (fun hc => ?_) <;> (first | (exfalso; contradiction) | ((try simp only [decide_eq_true_eq, decide_eq_false_iff_not, beq_iff_eq, bne_iff_ne, beq_eq_false_iff_ne, bne_eq_false_iff_eq, ne_eq, Decidable.not_not, Bool.not_eq_true', Bool.not_eq_false', Int.not_lt, Int.not_le] at hc); first | (exfalso; omega) | (exfalso; revert hc; decide) | skip)))
      | (with_reducible refine wc_block ?_)
      | (with_reducible refine wc_skip ?_)
      | (with_reducible refine wc_exit ?_)
      | (with_reducible refine wc_quiet (by kernel_rfl) (by kernel_rfl) ?_))
    | ((with_reducible (apply wx_id)); first
      | (with_reducible refine wx_then ?_)
      | (with_reducible refine wx_block ?_)
      | (with_reducible refine wx_block_exit ?_)
      | (with_reducible refine wx_block_other (by rfl) ?_)
      | (with_reducible refine wx_block_ret ?_)
      | (with_reducible refine wx_then_exit ?_)
      | (with_reducible refine wx_then_ret ?_)
      | ((with_reducible (apply wx_pf tt_ok)); (first | exact .inl rfl | exact .inr rfl); (first | exact Try.results3 | rfl); (repeat (first | exact Res.nil | (apply Res.tmp; rfl) | (apply Res.cell; rfl; (repeat (first | exact List.Mem.head _ | apply List.Mem.tail)); rfl))))
      | ((with_reducible (apply wx_rd tt_ok)); (first | exact .inl rfl | exact .inr rfl); (first | exact Try.results3 | rfl); (repeat (first | exact Res.nil | (apply Res.tmp; rfl) | (apply Res.cell; rfl; (repeat (first | exact List.Mem.head _ | apply List.Mem.tail)); rfl))); (first | exact sub_refl | exact sub_drop1 | exact sub_drop2 | exact sub_keeps (ps := [0]) rfl | exact sub_keeps (ps := [1]) rfl | exact sub_keeps (ps := [2]) rfl | exact sub_keeps (ps := [3]) rfl | exact sub_keeps (ps := [0, 0]) rfl | exact sub_keeps (ps := [1, 0]) rfl | exact sub_keeps (ps := [1, 1]) rfl | exact sub_keeps (ps := [0, 1]) rfl | exact sub_keeps (ps := [2, 0]) rfl | exact sub_keeps (ps := [0, 2]) rfl | exact sub_keeps (ps := [2, 1]) rfl | exact sub_keeps (ps := [1, 2]) rfl | exact sub_keeps (ps := [2, 2]) rfl); (first | rfl | skip)))
    | ((with_reducible (apply wq_id)); first
      | (apply wq_arith tt_ok; rfl; rfl; (first | ((with_reducible refine fit_div_i64 ?_ ?_) <;> omega) | ((with_reducible refine fit_div_i32 ?_ ?_) <;> omega) | ((with_reducible refine fit_div_u64 ?_ ?_) <;> omega) | ((with_reducible refine fit_i64 ?_); omega) | ((with_reducible refine fit_i32 ?_); omega) | ((with_reducible refine fit_u64 ?_); omega) | ((with_reducible refine fit_u8 ?_); omega) | ((with_reducible refine fit_u32 ?_); omega) | ((with_reducible refine fit_u16 ?_); omega) | rfl); rfl)
      | (apply wq_boolish tt_ok; rfl; rfl; (first | (with_reducible first | exact bb_not_t | exact bb_not_f | exact bb_eq_t _ | exact bb_eq_f _ | exact bb_t_eq _ | exact bb_f_eq _ | exact bb_ne_t _ | exact bb_ne_f _ | exact bb_t_ne _ | exact bb_f_ne _ | exact bb_same _ | exact bb_nsame _ | exact bi_same _ | exact bi_nsame _) | rfl); rfl)
      | (refine wq_pure tt_ok rfl rfl ?_)
      | (apply wq_load tt_ok; rfl; (repeat (first | exact List.Mem.head _ | apply List.Mem.tail)); rfl; rfl)
      | ((apply wl_rd Try.call11; rfl; rfl; rfl; exact sub_refl; exact hat); rfl)
      | ((apply wl_rd Try.call12; rfl; rfl; rfl; exact sub_refl; exact hgs); rfl)
      | ((apply wq_val (val_at_s (j := i) (ad := ad2) tt_ok rfl rfl rfl rfl rfl (by omega) ha2)); rfl)
      | ((apply wq_val (val_load_old tt_ok rfl hR.2.old rfl rfl ho)); rfl)
      | ((apply wq_val (val_at_s (j := k) (ad := ad1) tt_ok rfl rfl rfl rfl (by omega) (by omega) ha1)); rfl)
      | ((apply wq_val (val_load_old tt_ok rfl hR.1.old rfl rfl hx)); rfl)
      | (apply wq_yes; rfl; rfl; (with_reducible rfl))
      | (apply wq_no_t; rfl; rfl; (with_reducible rfl); rfl)
      | (apply wq_no_f; rfl; rfl; (with_reducible rfl); rfl)
      | (apply wq_no_u; rfl; rfl; rfl)
      | (refine wq_guard rfl rfl (fun hc => ?_) (fun hc => ?_) <;> (first | (exfalso; contradiction) | ((try simp only [decide_eq_true_eq, decide_eq_false_iff_not, beq_iff_eq, bne_iff_ne, beq_eq_false_iff_ne, bne_eq_false_iff_eq, ne_eq, Decidable.not_not, Bool.not_eq_true', Bool.not_eq_false', Int.not_lt, Int.not_le] at hc); first | (exfalso; omega) | (exfalso; revert hc; decide) | skip)))
      | (with_reducible refine wq_nil ?_)))
          all_goals first | exact wx_round (E' := (15, .int .u8 (x.tmod 64)) :: (16, .int .i64 ((k + 1 : Nat) : Int)) :: EQ first a1 a2 xs.length os.length cap1 cap2 fr b) (xs.length - (k + 1)) (by omega) ⟨k + 1, by omega, rfl, rfl, by rw [hly]⟩ (by repeat (first | exact agree_nil | (apply agree_cons; rfl))) sub_refl | rfl
        · have hke : k = xs.length := by omega
          subst hke
          repeat' (first
    | ((with_reducible (apply wl_id)); first
      | (apply wl_arith tt_ok; rfl; rfl; (first | ((with_reducible refine fit_div_i64 ?_ ?_) <;> omega) | ((with_reducible refine fit_div_i32 ?_ ?_) <;> omega) | ((with_reducible refine fit_div_u64 ?_ ?_) <;> omega) | ((with_reducible refine fit_i64 ?_); omega) | ((with_reducible refine fit_i32 ?_); omega) | ((with_reducible refine fit_u64 ?_); omega) | ((with_reducible refine fit_u8 ?_); omega) | ((with_reducible refine fit_u32 ?_); omega) | ((with_reducible refine fit_u16 ?_); omega) | rfl); rfl)
      | (apply wl_boolish tt_ok; rfl; rfl; (first | (with_reducible first | exact bb_not_t | exact bb_not_f | exact bb_eq_t _ | exact bb_eq_f _ | exact bb_t_eq _ | exact bb_f_eq _ | exact bb_ne_t _ | exact bb_ne_f _ | exact bb_t_ne _ | exact bb_f_ne _ | exact bb_same _ | exact bb_nsame _ | exact bi_same _ | exact bi_nsame _) | rfl); rfl)
      | (refine wl_pure tt_ok rfl rfl ?_)
      | (apply wl_load tt_ok; rfl; (repeat (first | exact List.Mem.head _ | apply List.Mem.tail)); rfl; rfl)
      | (refine wl_pf Try.call7 rfl rfl rfl (works_any) (fun _ _ => trivial) rfl ?_)
      | ((apply wl_rd Try.call9; rfl; rfl; rfl; exact sub_refl; exact hkn); rfl)
      | ((apply wl_rd Try.call12; rfl; rfl; rfl; exact sub_refl; exact hg2); rfl)
      | ((apply wl_rd Try.call13; rfl; rfl; rfl; exact sub_refl; exact hno); rfl)
      | (apply wl_store tt_ok; rfl; (repeat (first | exact Upd.here | apply Upd.there)); rfl; rfl; rfl; rfl; rfl; rfl)
      | (refine wl_box rfl rfl rfl (fun _ => ?_))
      | (apply wl_build1 tt_ok; rfl; rfl; rfl; rfl; rfl; intro _)
      | (refine wl_alloc tt_ok rfl rfl (fun _ => ?_))
      | (apply wl_yes; rfl; rfl; (with_reducible rfl))
      | (apply wl_no_t; rfl; rfl; (with_reducible rfl); rfl)
      | (apply wl_no_f; rfl; rfl; (with_reducible rfl); rfl)
      | (apply wl_no_u; rfl; rfl; rfl)
      | (refine wl_guard rfl rfl (fun hc => ?_) (fun hc => ?_) <;> (first | (exfalso; contradiction) | ((try simp only [decide_eq_true_eq, decide_eq_false_iff_not, beq_iff_eq, bne_iff_ne, beq_eq_false_iff_ne, bne_eq_false_iff_eq, ne_eq, Decidable.not_not, Bool.not_eq_true', Bool.not_eq_false', Int.not_lt, Int.not_le] at hc); first | (exfalso; omega) | (exfalso; revert hc; decide) | skip)))
      | (with_reducible refine wl_nil ?_))
    | ((with_reducible (apply wc_id)); first
      | (with_reducible refine wc_seq ?_)
      | (with_reducible refine wc_region ?_)
      | (with_reducible refine wc_ret ?_)
      | (refine wc_cond rfl (fun hc => ?_) (fun hc => ?_) <;> (first | (exfalso; contradiction) | ((try simp only [decide_eq_true_eq, decide_eq_false_iff_not, beq_iff_eq, bne_iff_ne, beq_eq_false_iff_ne, bne_eq_false_iff_eq, ne_eq, Decidable.not_not, Bool.not_eq_true', Bool.not_eq_false', Int.not_lt, Int.not_le] at hc); first | (exfalso; omega) | (exfalso; revert hc; decide) | skip)))
      | (with_reducible refine wc_block ?_)
      | (with_reducible refine wc_skip ?_)
      | (with_reducible refine wc_exit ?_)
      | (with_reducible refine wc_quiet (by kernel_rfl) (by kernel_rfl) ?_))
    | ((with_reducible (apply wx_id)); first
      | (with_reducible refine wx_then ?_)
      | (with_reducible refine wx_block ?_)
      | (with_reducible refine wx_block_exit ?_)
      | (with_reducible refine wx_block_other (by rfl) ?_)
      | (with_reducible refine wx_block_ret ?_)
      | (with_reducible refine wx_then_exit ?_)
      | (with_reducible refine wx_then_ret ?_)
      | ((with_reducible (apply wx_pf tt_ok)); (first | exact .inl rfl | exact .inr rfl); (first | exact Try.results3 | rfl); (repeat (first | exact Res.nil | (apply Res.tmp; rfl) | (apply Res.cell; rfl; (repeat (first | exact List.Mem.head _ | apply List.Mem.tail)); rfl))))
      | ((with_reducible (apply wx_rd tt_ok)); (first | exact .inl rfl | exact .inr rfl); (first | exact Try.results3 | rfl); (repeat (first | exact Res.nil | (apply Res.tmp; rfl) | (apply Res.cell; rfl; (repeat (first | exact List.Mem.head _ | apply List.Mem.tail)); rfl))); (first | exact sub_refl | exact sub_drop1 | exact sub_drop2 | exact sub_keeps (ps := [0]) rfl | exact sub_keeps (ps := [1]) rfl | exact sub_keeps (ps := [2]) rfl | exact sub_keeps (ps := [3]) rfl | exact sub_keeps (ps := [0, 0]) rfl | exact sub_keeps (ps := [1, 0]) rfl | exact sub_keeps (ps := [1, 1]) rfl | exact sub_keeps (ps := [0, 1]) rfl | exact sub_keeps (ps := [2, 0]) rfl | exact sub_keeps (ps := [0, 2]) rfl | exact sub_keeps (ps := [2, 1]) rfl | exact sub_keeps (ps := [1, 2]) rfl | exact sub_keeps (ps := [2, 2]) rfl); (first | rfl | skip)))
    | ((with_reducible (apply wq_id)); first
      | (apply wq_arith tt_ok; rfl; rfl; (first | ((with_reducible refine fit_div_i64 ?_ ?_) <;> omega) | ((with_reducible refine fit_div_i32 ?_ ?_) <;> omega) | ((with_reducible refine fit_div_u64 ?_ ?_) <;> omega) | ((with_reducible refine fit_i64 ?_); omega) | ((with_reducible refine fit_i32 ?_); omega) | ((with_reducible refine fit_u64 ?_); omega) | ((with_reducible refine fit_u8 ?_); omega) | ((with_reducible refine fit_u32 ?_); omega) | ((with_reducible refine fit_u16 ?_); omega) | rfl); rfl)
      | (apply wq_boolish tt_ok; rfl; rfl; (first | (with_reducible first | exact bb_not_t | exact bb_not_f | exact bb_eq_t _ | exact bb_eq_f _ | exact bb_t_eq _ | exact bb_f_eq _ | exact bb_ne_t _ | exact bb_ne_f _ | exact bb_t_ne _ | exact bb_f_ne _ | exact bb_same _ | exact bb_nsame _ | exact bi_same _ | exact bi_nsame _) | rfl); rfl)
      | (refine wq_pure tt_ok rfl rfl ?_)
      | (apply wq_load tt_ok; rfl; (repeat (first | exact List.Mem.head _ | apply List.Mem.tail)); rfl; rfl)
      | (refine wq_pf Try.call7 rfl rfl rfl (works_any) (fun _ _ => trivial) rfl ?_)
      | ((apply wl_rd Try.call9; rfl; rfl; rfl; exact sub_refl; exact hkn); rfl)
      | ((apply wl_rd Try.call12; rfl; rfl; rfl; exact sub_refl; exact hg2); rfl)
      | ((apply wl_rd Try.call13; rfl; rfl; rfl; exact sub_refl; exact hno); rfl)
      | (apply wq_yes; rfl; rfl; (with_reducible rfl))
      | (apply wq_no_t; rfl; rfl; (with_reducible rfl); rfl)
      | (apply wq_no_f; rfl; rfl; (with_reducible rfl); rfl)
      | (apply wq_no_u; rfl; rfl; rfl)
      | (refine wq_guard rfl rfl (fun hc => ?_) (fun hc => ?_) <;> (first | (exfalso; contradiction) | ((try simp only [decide_eq_true_eq, decide_eq_false_iff_not, beq_iff_eq, bne_iff_ne, beq_eq_false_iff_ne, bne_eq_false_iff_eq, ne_eq, Decidable.not_not, Bool.not_eq_true', Bool.not_eq_false', Int.not_lt, Int.not_le] at hc); first | (exfalso; omega) | (exfalso; revert hc; decide) | skip)))
      | (with_reducible refine wq_nil ?_)))
          all_goals first | rfl
      · refine wc_loop (E' := (14, .int .i64 0) :: (13, .int .i64 kk) :: EQ first a1 a2 xs.length os.length cap1 cap2 fr b) (L' := L)
          (fun m E L => ∃ (k j : Nat), k ≤ xs.length ∧ m = xs.length - k ∧ k ≤ j ∧ j ≤ ys.length ∧ QSt b fr (st ys j) L ∧ E = (14, .int .i64 k) :: (13, .int .i64 kk) :: EQ first a1 a2 xs.length os.length cap1 cap2 fr b)
          xs.length ⟨0, j, by omega, by omega, by omega, hj, hQ, rfl⟩ (by repeat (first | exact agree_nil | (apply agree_cons; rfl))) sub_refl ?_
        clear hQ hj hkj
        rintro m E L ⟨k, j, hk0, rfl, hkj, hj, hQ, rfl⟩
        by_cases hgo3 : k < xs.length
        · have ha1 : a1 = some ad1 := hR.1.at_ (by intro h; subst h; simp at hgo3)
          obtain ⟨x, hxx⟩ : ∃ x, xs[k]? = some x := ⟨_, List.getElem?_eq_getElem hgo3⟩
          have hx : (u8s xs)[k * 1]? = some (.int .u8 x) := by simp [u8s, hxx]
          have hxb := hR.1.byte k x hxx
          have hy : ys[k]? = some (x.tmod 64) := by rw [hys]; simp [hxx]
          have hx64 : 0 ≤ x.tmod 64 ∧ x.tmod 64 < 64 := ⟨Int.tmod_nonneg _ hxb.1, Int.tmod_lt_of_pos _ (by decide)⟩
          have hnx0 := next_eq fr ys j k _ hy hm (by omega) hx64.2 hj
          have hkl := st_len ys j hj
          obtain ⟨j', hj', hnx⟩ : ∃ j', ((j' = j ∧ k ≠ j) ∨ (j' = j + 1 ∧ k = j)) ∧ qNext fr (st ys j) (fr + k) (x.tmod 64) = st ys j' := by
            by_cases e : k = j
            · exact ⟨j + 1, .inr ⟨rfl, e⟩, by rw [hnx0, if_pos e]⟩
            · exact ⟨j, .inl ⟨rfl, e⟩, by rw [hnx0, if_neg e]⟩
          repeat' (first
    | ((with_reducible (apply wl_id)); first
      | (apply wl_arith tt_ok; rfl; rfl; (first | ((with_reducible refine fit_div_i64 ?_ ?_) <;> omega) | ((with_reducible refine fit_div_i32 ?_ ?_) <;> omega) | ((with_reducible refine fit_div_u64 ?_ ?_) <;> omega) | ((with_reducible refine fit_i64 ?_); omega) | ((with_reducible refine fit_i32 ?_); omega) | ((with_reducible refine fit_u64 ?_); omega) | ((with_reducible refine fit_u8 ?_); omega) | ((with_reducible refine fit_u32 ?_); omega) | ((with_reducible refine fit_u16 ?_); omega) | rfl); rfl)
      | (apply wl_boolish tt_ok; rfl; rfl; (first | (with_reducible first | exact bb_not_t | exact bb_not_f | exact bb_eq_t _ | exact bb_eq_f _ | exact bb_t_eq _ | exact bb_f_eq _ | exact bb_ne_t _ | exact bb_ne_f _ | exact bb_t_ne _ | exact bb_f_ne _ | exact bb_same _ | exact bb_nsame _ | exact bi_same _ | exact bi_nsame _) | rfl); rfl)
      | (refine wl_pure tt_ok rfl rfl ?_)
      | (apply wl_load tt_ok; rfl; (repeat (first | exact List.Mem.head _ | apply List.Mem.tail)); rfl; rfl)
      | ((apply wl_spL Try.call10; rfl; rfl; rfl; exact qAdd _ _ _ _ _ _ (by assumption) (by omega) (by rw [st_len _ _ (by omega)]; omega) (by omega) (by omega); rfl); rintro _ _ ⟨rfl, hQ⟩; rw [hnx] at hQ)
      | (refine wl_pf Try.call7 rfl rfl rfl (works_any) (fun _ _ => trivial) rfl ?_)
      | ((apply wl_spL Try.call8; rfl; rfl; rfl; exact qNew _; rfl); rintro _ _ ⟨b, rfl, rfl⟩)
      | ((apply wl_spL Try.call10; rfl; rfl; rfl; exact qAdd _ _ _ _ _ _ (by assumption) (by omega) (by rw [st_len _ _ (by omega)]; omega) (by omega) (by omega); rfl); rintro _ _ ⟨rfl, hQ⟩)
      | ((apply wl_rd Try.call9; rfl; rfl; rfl; exact sub_refl; exact qKnownS _ _ _ _ (by assumption) (by omega) (by rw [st_len _ _ (by omega)]; omega)); rfl)
      | ((apply wl_rd Try.call12; rfl; rfl; rfl; exact sub_refl; exact qGuess _ _ _ _ _ (by assumption) (by omega) (by rw [st_len _ _ (by omega)]; omega) (by omega)); rfl)
      | ((apply wl_rd Try.call11; rfl; rfl; rfl; exact sub_refl; exact qat_any _ _ _ _ _ _ (by assumption) (by omega) (by rw [st_len _ _ (by omega)]; omega) (by omega)); rfl)
      | ((apply wl_rd Try.call13; rfl; rfl; rfl; exact sub_refl; exact qno_any _ _ _ _ _ (by assumption) (by omega) (by rw [st_len _ _ (by omega)]; omega) (by omega)); rfl)
      | ((apply wl_val (val_at_s (j := i) (ad := ad2) tt_ok rfl rfl rfl rfl rfl (by omega) ha2)); rfl)
      | ((apply wl_val (val_load_old tt_ok rfl hR.2.old rfl rfl ho)); rfl)
      | ((apply wl_val (val_at_s (j := k) (ad := ad1) tt_ok rfl rfl rfl rfl (by omega) (by omega) ha1)); rfl)
      | ((apply wl_val (val_load_old tt_ok rfl hR.1.old rfl rfl hx)); rfl)
      | (apply wl_store tt_ok; rfl; (repeat (first | exact Upd.here | apply Upd.there)); rfl; rfl; rfl; rfl; rfl; rfl)
      | (refine wl_box rfl rfl rfl (fun _ => ?_))
      | (apply wl_build1 tt_ok; rfl; rfl; rfl; rfl; rfl; intro _)
      | (refine wl_alloc tt_ok rfl rfl (fun _ => ?_))
      | (apply wl_yes; rfl; rfl; (with_reducible rfl))
      | (apply wl_no_t; rfl; rfl; (with_reducible rfl); rfl)
      | (apply wl_no_f; rfl; rfl; (with_reducible rfl); rfl)
      | (apply wl_no_u; rfl; rfl; rfl)
      | (refine wl_guard rfl rfl (fun hc => ?_) (fun hc => ?_) <;> (first | (exfalso; contradiction) | ((try simp only [decide_eq_true_eq, decide_eq_false_iff_not, beq_iff_eq, bne_iff_ne, beq_eq_false_iff_ne, bne_eq_false_iff_eq, ne_eq, Decidable.not_not, Bool.not_eq_true', Bool.not_eq_false', Int.not_lt, Int.not_le] at hc); first | (exfalso; omega) | (exfalso; revert hc; decide) | skip)))
      | (with_reducible refine wl_nil ?_))
    | ((with_reducible (apply wc_id)); first
      | (with_reducible refine wc_seq ?_)
      | (with_reducible refine wc_region ?_)
      | (with_reducible refine wc_ret ?_)
      | (refine wc_cond rfl (fun hc => ?_) (fun hc => ?_) <;> (first | (exfalso; contradiction) | ((try simp only [decide_eq_true_eq, decide_eq_false_iff_not, beq_iff_eq, bne_iff_ne, beq_eq_false_iff_ne, bne_eq_false_iff_eq, ne_eq, Decidable.not_not, Bool.not_eq_true', Bool.not_eq_false', Int.not_lt, Int.not_le] at hc); first | (exfalso; omega) | (exfalso; revert hc; decide) | skip)))
      | (with_reducible refine wc_block ?_)
      | (with_reducible refine wc_skip ?_)
      | (with_reducible refine wc_exit ?_)
      | (with_reducible refine wc_quiet (by kernel_rfl) (by kernel_rfl) ?_))
    | ((with_reducible (apply wx_id)); first
      | (with_reducible refine wx_then ?_)
      | (with_reducible refine wx_block ?_)
      | (with_reducible refine wx_block_exit ?_)
      | (with_reducible refine wx_block_other (by rfl) ?_)
      | (with_reducible refine wx_block_ret ?_)
      | (with_reducible refine wx_then_exit ?_)
      | (with_reducible refine wx_then_ret ?_)
      | ((with_reducible (apply wx_pf tt_ok)); (first | exact .inl rfl | exact .inr rfl); (first | exact Try.results3 | rfl); (repeat (first | exact Res.nil | (apply Res.tmp; rfl) | (apply Res.cell; rfl; (repeat (first | exact List.Mem.head _ | apply List.Mem.tail)); rfl))))
      | ((with_reducible (apply wx_rd tt_ok)); (first | exact .inl rfl | exact .inr rfl); (first | exact Try.results3 | rfl); (repeat (first | exact Res.nil | (apply Res.tmp; rfl) | (apply Res.cell; rfl; (repeat (first | exact List.Mem.head _ | apply List.Mem.tail)); rfl))); (first | exact sub_refl | exact sub_drop1 | exact sub_drop2 | exact sub_keeps (ps := [0]) rfl | exact sub_keeps (ps := [1]) rfl | exact sub_keeps (ps := [2]) rfl | exact sub_keeps (ps := [3]) rfl | exact sub_keeps (ps := [0, 0]) rfl | exact sub_keeps (ps := [1, 0]) rfl | exact sub_keeps (ps := [1, 1]) rfl | exact sub_keeps (ps := [0, 1]) rfl | exact sub_keeps (ps := [2, 0]) rfl | exact sub_keeps (ps := [0, 2]) rfl | exact sub_keeps (ps := [2, 1]) rfl | exact sub_keeps (ps := [1, 2]) rfl | exact sub_keeps (ps := [2, 2]) rfl); (first | rfl | skip)))
    | ((with_reducible (apply wq_id)); first
      | (apply wq_arith tt_ok; rfl; rfl; (first | ((with_reducible refine fit_div_i64 ?_ ?_) <;> omega) | ((with_reducible refine fit_div_i32 ?_ ?_) <;> omega) | ((with_reducible refine fit_div_u64 ?_ ?_) <;> omega) | ((with_reducible refine fit_i64 ?_); omega) | ((with_reducible refine fit_i32 ?_); omega) | ((with_reducible refine fit_u64 ?_); omega) | ((with_reducible refine fit_u8 ?_); omega) | ((with_reducible refine fit_u32 ?_); omega) | ((with_reducible refine fit_u16 ?_); omega) | rfl); rfl)
      | (apply wq_boolish tt_ok; rfl; rfl; (first | (with_reducible first | exact bb_not_t | exact bb_not_f | exact bb_eq_t _ | exact bb_eq_f _ | exact bb_t_eq _ | exact bb_f_eq _ | exact bb_ne_t _ | exact bb_ne_f _ | exact bb_t_ne _ | exact bb_f_ne _ | exact bb_same _ | exact bb_nsame _ | exact bi_same _ | exact bi_nsame _) | rfl); rfl)
      | (refine wq_pure tt_ok rfl rfl ?_)
      | (apply wq_load tt_ok; rfl; (repeat (first | exact List.Mem.head _ | apply List.Mem.tail)); rfl; rfl)
      | ((apply wl_spL Try.call10; rfl; rfl; rfl; exact qAdd _ _ _ _ _ _ (by assumption) (by omega) (by rw [st_len _ _ (by omega)]; omega) (by omega) (by omega); rfl); rintro _ _ ⟨rfl, hQ⟩; rw [hnx] at hQ)
      | (refine wq_pf Try.call7 rfl rfl rfl (works_any) (fun _ _ => trivial) rfl ?_)
      | ((apply wl_spL Try.call8; rfl; rfl; rfl; exact qNew _; rfl); rintro _ _ ⟨b, rfl, rfl⟩)
      | ((apply wl_spL Try.call10; rfl; rfl; rfl; exact qAdd _ _ _ _ _ _ (by assumption) (by omega) (by rw [st_len _ _ (by omega)]; omega) (by omega) (by omega); rfl); rintro _ _ ⟨rfl, hQ⟩)
      | ((apply wl_rd Try.call9; rfl; rfl; rfl; exact sub_refl; exact qKnownS _ _ _ _ (by assumption) (by omega) (by rw [st_len _ _ (by omega)]; omega)); rfl)
      | ((apply wl_rd Try.call12; rfl; rfl; rfl; exact sub_refl; exact qGuess _ _ _ _ _ (by assumption) (by omega) (by rw [st_len _ _ (by omega)]; omega) (by omega)); rfl)
      | ((apply wl_rd Try.call11; rfl; rfl; rfl; exact sub_refl; exact qat_any _ _ _ _ _ _ (by assumption) (by omega) (by rw [st_len _ _ (by omega)]; omega) (by omega)); rfl)
      | ((apply wl_rd Try.call13; rfl; rfl; rfl; exact sub_refl; exact qno_any _ _ _ _ _ (by assumption) (by omega) (by rw [st_len _ _ (by omega)]; omega) (by omega)); rfl)
      | ((apply wq_val (val_at_s (j := i) (ad := ad2) tt_ok rfl rfl rfl rfl rfl (by omega) ha2)); rfl)
      | ((apply wq_val (val_load_old tt_ok rfl hR.2.old rfl rfl ho)); rfl)
      | ((apply wq_val (val_at_s (j := k) (ad := ad1) tt_ok rfl rfl rfl rfl (by omega) (by omega) ha1)); rfl)
      | ((apply wq_val (val_load_old tt_ok rfl hR.1.old rfl rfl hx)); rfl)
      | (apply wq_yes; rfl; rfl; (with_reducible rfl))
      | (apply wq_no_t; rfl; rfl; (with_reducible rfl); rfl)
      | (apply wq_no_f; rfl; rfl; (with_reducible rfl); rfl)
      | (apply wq_no_u; rfl; rfl; rfl)
      | (refine wq_guard rfl rfl (fun hc => ?_) (fun hc => ?_) <;> (first | (exfalso; contradiction) | ((try simp only [decide_eq_true_eq, decide_eq_false_iff_not, beq_iff_eq, bne_iff_ne, beq_eq_false_iff_ne, bne_eq_false_iff_eq, ne_eq, Decidable.not_not, Bool.not_eq_true', Bool.not_eq_false', Int.not_lt, Int.not_le] at hc); first | (exfalso; omega) | (exfalso; revert hc; decide) | skip)))
      | (with_reducible refine wq_nil ?_)))
          all_goals first | exact wx_round (E' := (14, .int .i64 ((k + 1 : Nat) : Int)) :: (13, .int .i64 kk) :: EQ first a1 a2 xs.length os.length cap1 cap2 fr b) (xs.length - (k + 1)) (by omega) ⟨k + 1, j', by omega, rfl, by omega, by omega, hQ, rfl⟩ (by repeat (first | exact agree_nil | (apply agree_cons; rfl))) sub_refl
        · skip
          repeat' (first
    | ((with_reducible (apply wl_id)); first
      | (apply wl_arith tt_ok; rfl; rfl; (first | ((with_reducible refine fit_div_i64 ?_ ?_) <;> omega) | ((with_reducible refine fit_div_i32 ?_ ?_) <;> omega) | ((with_reducible refine fit_div_u64 ?_ ?_) <;> omega) | ((with_reducible refine fit_i64 ?_); omega) | ((with_reducible refine fit_i32 ?_); omega) | ((with_reducible refine fit_u64 ?_); omega) | ((with_reducible refine fit_u8 ?_); omega) | ((with_reducible refine fit_u32 ?_); omega) | ((with_reducible refine fit_u16 ?_); omega) | rfl); rfl)
      | (apply wl_boolish tt_ok; rfl; rfl; (first | (with_reducible first | exact bb_not_t | exact bb_not_f | exact bb_eq_t _ | exact bb_eq_f _ | exact bb_t_eq _ | exact bb_f_eq _ | exact bb_ne_t _ | exact bb_ne_f _ | exact bb_t_ne _ | exact bb_f_ne _ | exact bb_same _ | exact bb_nsame _ | exact bi_same _ | exact bi_nsame _) | rfl); rfl)
      | (refine wl_pure tt_ok rfl rfl ?_)
      | (apply wl_load tt_ok; rfl; (repeat (first | exact List.Mem.head _ | apply List.Mem.tail)); rfl; rfl)
      | (refine wl_pf Try.call7 rfl rfl rfl (works_any) (fun _ _ => trivial) rfl ?_)
      | ((apply wl_spL Try.call8; rfl; rfl; rfl; exact qNew _; rfl); rintro _ _ ⟨b, rfl, rfl⟩)
      | ((apply wl_spL Try.call10; rfl; rfl; rfl; exact qAdd _ _ _ _ _ _ (by assumption) (by omega) (by rw [st_len _ _ (by omega)]; omega) (by omega) (by omega); rfl); rintro _ _ ⟨rfl, hQ⟩)
      | ((apply wl_rd Try.call9; rfl; rfl; rfl; exact sub_refl; exact qKnownS _ _ _ _ (by assumption) (by omega) (by rw [st_len _ _ (by omega)]; omega)); rfl)
      | ((apply wl_rd Try.call12; rfl; rfl; rfl; exact sub_refl; exact qGuess _ _ _ _ _ (by assumption) (by omega) (by rw [st_len _ _ (by omega)]; omega) (by omega)); rfl)
      | ((apply wl_rd Try.call11; rfl; rfl; rfl; exact sub_refl; exact qat_any _ _ _ _ _ _ (by assumption) (by omega) (by rw [st_len _ _ (by omega)]; omega) (by omega)); rfl)
      | ((apply wl_rd Try.call13; rfl; rfl; rfl; exact sub_refl; exact qno_any _ _ _ _ _ (by assumption) (by omega) (by rw [st_len _ _ (by omega)]; omega) (by omega)); rfl)
      | (apply wl_store tt_ok; rfl; (repeat (first | exact Upd.here | apply Upd.there)); rfl; rfl; rfl; rfl; rfl; rfl)
      | (refine wl_box rfl rfl rfl (fun _ => ?_))
      | (apply wl_build1 tt_ok; rfl; rfl; rfl; rfl; rfl; intro _)
      | (refine wl_alloc tt_ok rfl rfl (fun _ => ?_))
      | (apply wl_yes; rfl; rfl; (with_reducible rfl))
      | (apply wl_no_t; rfl; rfl; (with_reducible rfl); rfl)
      | (apply wl_no_f; rfl; rfl; (with_reducible rfl); rfl)
      | (apply wl_no_u; rfl; rfl; rfl)
      | (refine wl_guard rfl rfl (fun hc => ?_) (fun hc => ?_) <;> (first | (exfalso; contradiction) | ((try simp only [decide_eq_true_eq, decide_eq_false_iff_not, beq_iff_eq, bne_iff_ne, beq_eq_false_iff_ne, bne_eq_false_iff_eq, ne_eq, Decidable.not_not, Bool.not_eq_true', Bool.not_eq_false', Int.not_lt, Int.not_le] at hc); first | (exfalso; omega) | (exfalso; revert hc; decide) | skip)))
      | (with_reducible refine wl_nil ?_))
    | ((with_reducible (apply wc_id)); first
      | (with_reducible refine wc_seq ?_)
      | (with_reducible refine wc_region ?_)
      | (with_reducible refine wc_ret ?_)
      | (refine wc_cond rfl (fun hc => ?_) (fun hc => ?_) <;> (first | (exfalso; contradiction) | ((try simp only [decide_eq_true_eq, decide_eq_false_iff_not, beq_iff_eq, bne_iff_ne, beq_eq_false_iff_ne, bne_eq_false_iff_eq, ne_eq, Decidable.not_not, Bool.not_eq_true', Bool.not_eq_false', Int.not_lt, Int.not_le] at hc); first | (exfalso; omega) | (exfalso; revert hc; decide) | skip)))
      | (with_reducible refine wc_block ?_)
      | (with_reducible refine wc_skip ?_)
      | (with_reducible refine wc_exit ?_)
      | (with_reducible refine wc_quiet (by kernel_rfl) (by kernel_rfl) ?_))
    | ((with_reducible (apply wx_id)); first
      | (with_reducible refine wx_then ?_)
      | (with_reducible refine wx_block ?_)
      | (with_reducible refine wx_block_exit ?_)
      | (with_reducible refine wx_block_other (by rfl) ?_)
      | (with_reducible refine wx_block_ret ?_)
      | (with_reducible refine wx_then_exit ?_)
      | (with_reducible refine wx_then_ret ?_)
      | ((with_reducible (apply wx_pf tt_ok)); (first | exact .inl rfl | exact .inr rfl); (first | exact Try.results3 | rfl); (repeat (first | exact Res.nil | (apply Res.tmp; rfl) | (apply Res.cell; rfl; (repeat (first | exact List.Mem.head _ | apply List.Mem.tail)); rfl))))
      | ((with_reducible (apply wx_rd tt_ok)); (first | exact .inl rfl | exact .inr rfl); (first | exact Try.results3 | rfl); (repeat (first | exact Res.nil | (apply Res.tmp; rfl) | (apply Res.cell; rfl; (repeat (first | exact List.Mem.head _ | apply List.Mem.tail)); rfl))); (first | exact sub_refl | exact sub_drop1 | exact sub_drop2 | exact sub_keeps (ps := [0]) rfl | exact sub_keeps (ps := [1]) rfl | exact sub_keeps (ps := [2]) rfl | exact sub_keeps (ps := [3]) rfl | exact sub_keeps (ps := [0, 0]) rfl | exact sub_keeps (ps := [1, 0]) rfl | exact sub_keeps (ps := [1, 1]) rfl | exact sub_keeps (ps := [0, 1]) rfl | exact sub_keeps (ps := [2, 0]) rfl | exact sub_keeps (ps := [0, 2]) rfl | exact sub_keeps (ps := [2, 1]) rfl | exact sub_keeps (ps := [1, 2]) rfl | exact sub_keeps (ps := [2, 2]) rfl); (first | rfl | skip)))
    | ((with_reducible (apply wq_id)); first
      | (apply wq_arith tt_ok; rfl; rfl; (first | ((with_reducible refine fit_div_i64 ?_ ?_) <;> omega) | ((with_reducible refine fit_div_i32 ?_ ?_) <;> omega) | ((with_reducible refine fit_div_u64 ?_ ?_) <;> omega) | ((with_reducible refine fit_i64 ?_); omega) | ((with_reducible refine fit_i32 ?_); omega) | ((with_reducible refine fit_u64 ?_); omega) | ((with_reducible refine fit_u8 ?_); omega) | ((with_reducible refine fit_u32 ?_); omega) | ((with_reducible refine fit_u16 ?_); omega) | rfl); rfl)
      | (apply wq_boolish tt_ok; rfl; rfl; (first | (with_reducible first | exact bb_not_t | exact bb_not_f | exact bb_eq_t _ | exact bb_eq_f _ | exact bb_t_eq _ | exact bb_f_eq _ | exact bb_ne_t _ | exact bb_ne_f _ | exact bb_t_ne _ | exact bb_f_ne _ | exact bb_same _ | exact bb_nsame _ | exact bi_same _ | exact bi_nsame _) | rfl); rfl)
      | (refine wq_pure tt_ok rfl rfl ?_)
      | (apply wq_load tt_ok; rfl; (repeat (first | exact List.Mem.head _ | apply List.Mem.tail)); rfl; rfl)
      | (refine wq_pf Try.call7 rfl rfl rfl (works_any) (fun _ _ => trivial) rfl ?_)
      | ((apply wl_spL Try.call8; rfl; rfl; rfl; exact qNew _; rfl); rintro _ _ ⟨b, rfl, rfl⟩)
      | ((apply wl_spL Try.call10; rfl; rfl; rfl; exact qAdd _ _ _ _ _ _ (by assumption) (by omega) (by rw [st_len _ _ (by omega)]; omega) (by omega) (by omega); rfl); rintro _ _ ⟨rfl, hQ⟩)
      | ((apply wl_rd Try.call9; rfl; rfl; rfl; exact sub_refl; exact qKnownS _ _ _ _ (by assumption) (by omega) (by rw [st_len _ _ (by omega)]; omega)); rfl)
      | ((apply wl_rd Try.call12; rfl; rfl; rfl; exact sub_refl; exact qGuess _ _ _ _ _ (by assumption) (by omega) (by rw [st_len _ _ (by omega)]; omega) (by omega)); rfl)
      | ((apply wl_rd Try.call11; rfl; rfl; rfl; exact sub_refl; exact qat_any _ _ _ _ _ _ (by assumption) (by omega) (by rw [st_len _ _ (by omega)]; omega) (by omega)); rfl)
      | ((apply wl_rd Try.call13; rfl; rfl; rfl; exact sub_refl; exact qno_any _ _ _ _ _ (by assumption) (by omega) (by rw [st_len _ _ (by omega)]; omega) (by omega)); rfl)
      | (apply wq_yes; rfl; rfl; (with_reducible rfl))
      | (apply wq_no_t; rfl; rfl; (with_reducible rfl); rfl)
      | (apply wq_no_f; rfl; rfl; (with_reducible rfl); rfl)
      | (apply wq_no_u; rfl; rfl; rfl)
      | (refine wq_guard rfl rfl (fun hc => ?_) (fun hc => ?_) <;> (first | (exfalso; contradiction) | ((try simp only [decide_eq_true_eq, decide_eq_false_iff_not, beq_iff_eq, bne_iff_ne, beq_eq_false_iff_ne, bne_eq_false_iff_eq, ne_eq, Decidable.not_not, Bool.not_eq_true', Bool.not_eq_false', Int.not_lt, Int.not_le] at hc); first | (exfalso; omega) | (exfalso; revert hc; decide) | skip)))
      | (with_reducible refine wq_nil ?_)))
          all_goals first | exact wx_round (E' := (13, .int .i64 ((kk + 1 : Nat) : Int)) :: EQ first a1 a2 xs.length os.length cap1 cap2 fr b) (xs.length - (kk + 1)) (by omega) ⟨kk + 1, j, by omega, rfl, by omega, fun _ => by omega, hQ, rfl⟩ (by repeat (first | exact agree_nil | (apply agree_cons; rfl))) sub_refl
      · have hjn : j = ys.length := by omega
        have hst : (st ys j).1 = ys := by subst hjn; simp [st]
        have hla : (st ys j).2 = lastY ys xs.length := by rw [hjn, hyl]; rfl
        have hkn := qKnownS b fr (st ys j) L hQ (by omega) (by rw [hst]; omega)
        have hno := qno_any b (fr + xs.length) fr (st ys j) L hQ (by omega) (by rw [hst]; omega) (by omega)
        have hg2 := qGuess b (fr + xs.length + 5) fr (st ys j) L hQ (by omega) (by rw [hst]; omega) (by omega)
        have v1 : (!(qIn fr (st ys j).1 (fr + xs.length)) && decide (qVal fr (st ys j).1 (fr + xs.length) = 0)) = true := by
          unfold qIn qVal; rw [hst, decide_eq_false (by omega), if_neg (by omega)]; rfl
        have v2 : qGuessV fr (st ys j) (fr + xs.length + 5) = lastY ys xs.length := by unfold qGuessV; rw [hst, if_neg (by omega), hla]
        rw [v1] at hno
        rw [v2] at hg2
        rw [hst, hyl] at hkn
        refine wc_loop (E' := (15, .int .u8 0) :: (16, .int .i64 0) :: EQ first a1 a2 xs.length os.length cap1 cap2 fr b) (L' := L)
          (fun m E L2 => ∃ (k : Nat), k ≤ xs.length ∧ m = xs.length - k ∧ L2 = L ∧ E = (15, .int .u8 (lastY ys k)) :: (16, .int .i64 k) :: EQ first a1 a2 xs.length os.length cap1 cap2 fr b)
          xs.length ⟨0, by omega, by omega, rfl, rfl⟩ (by repeat (first | exact agree_nil | (apply agree_cons; rfl))) sub_refl ?_
        rintro m E L2 ⟨k, hk0, rfl, rfl, rfl⟩
        by_cases hgo3 : k < xs.length
        · have ha1 : a1 = some ad1 := hR.1.at_ (by intro h; subst h; simp at hgo3)
          obtain ⟨x, hxx⟩ : ∃ x, xs[k]? = some x := ⟨_, List.getElem?_eq_getElem hgo3⟩
          have hx : (u8s xs)[k * 1]? = some (.int .u8 x) := by simp [u8s, hxx]
          have hxb := hR.1.byte k x hxx
          have hy : ys[k]? = some (x.tmod 64) := by rw [hys]; simp [hxx]
          have hx64 : 0 ≤ x.tmod 64 ∧ x.tmod 64 < 64 := ⟨Int.tmod_nonneg _ hxb.1, Int.tmod_lt_of_pos _ (by decide)⟩
          have hgd : ys.getD (fr + k - fr).toNat 0 = x.tmod 64 := by
            rw [show (fr + k - fr).toNat = k by omega]; simp [List.getD, hy]
          have hly : lastY ys (k + 1) = x.tmod 64 := by unfold lastY; simp [List.getD, hy]
          have hat := qat_any b (fr + k) fr (x.tmod 64) (st ys j) L2 hQ (by omega) (by rw [hst]; omega) (by omega)
          have v3 : (qIn fr (st ys j).1 (fr + k) && decide (qVal fr (st ys j).1 (fr + k) = x.tmod 64)) = true := by
            unfold qIn qVal; rw [hst, decide_eq_true (by omega), if_pos (by omega), hgd]; simp
          rw [v3] at hat
          have hgs := qGuess b (fr + k) fr (st ys j) L2 hQ (by omega) (by rw [hst]; omega) (by omega)
          have v4 : qGuessV fr (st ys j) (fr + k) = x.tmod 64 := by unfold qGuessV; rw [hst, if_pos (by omega), hgd]
          rw [v4] at hgs
          repeat' (first
    | ((with_reducible (apply wl_id)); first
      | (apply wl_arith tt_ok; rfl; rfl; (first | ((with_reducible refine fit_div_i64 ?_ ?_) <;> omega) | ((with_reducible refine fit_div_i32 ?_ ?_) <;> omega) | ((with_reducible refine fit_div_u64 ?_ ?_) <;> omega) | ((with_reducible refine fit_i64 ?_); omega) | ((with_reducible refine fit_i32 ?_); omega) | ((with_reducible refine fit_u64 ?_); omega) | ((with_reducible refine fit_u8 ?_); omega) | ((with_reducible refine fit_u32 ?_); omega) | ((with_reducible refine fit_u16 ?_); omega) | rfl); rfl)
      | (apply wl_boolish tt_ok; rfl; rfl; (first | (with_reducible first | exact bb_not_t | exact bb_not_f | exact bb_eq_t _ | exact bb_eq_f _ | exact bb_t_eq _ | exact bb_f_eq _ | exact bb_ne_t _ | exact bb_ne_f _ | exact bb_t_ne _ | exact bb_f_ne _ | exact bb_same _ | exact bb_nsame _ | exact bi_same _ | exact bi_nsame _) | rfl); rfl)
      | (refine wl_pure tt_ok rfl rfl ?_)
      | (apply wl_load tt_ok; rfl; (repeat (first | exact List.Mem.head _ | apply List.Mem.tail)); rfl; rfl)
      | ((apply wl_rd Try.call11; rfl; rfl; rfl; exact sub_refl; exact hat); rfl)
      | ((apply wl_rd Try.call12; rfl; rfl; rfl; exact sub_refl; exact hgs); rfl)
      | ((apply wl_val (val_at_s (j := i) (ad := ad2) tt_ok rfl rfl rfl rfl rfl (by omega) ha2)); rfl)
      | ((apply wl_val (val_load_old tt_ok rfl hR.2.old rfl rfl ho)); rfl)
      | ((apply wl_val (val_at_s (j := k) (ad := ad1) tt_ok rfl rfl rfl rfl (by omega) (by omega) ha1)); rfl)
      | ((apply wl_val (val_load_old tt_ok rfl hR.1.old rfl rfl hx)); rfl)
      | (apply wl_store tt_ok; rfl; (repeat (first | exact Upd.here | apply Upd.there)); rfl; rfl; rfl; rfl; rfl; rfl)
      | (refine wl_box rfl rfl rfl (fun _ => ?_))
      | (apply wl_build1 tt_ok; rfl; rfl; rfl; rfl; rfl; intro _)
      | (refine wl_alloc tt_ok rfl rfl (fun _ => ?_))
      | (apply wl_yes; rfl; rfl; (with_reducible rfl))
      | (apply wl_no_t; rfl; rfl; (with_reducible rfl); rfl)
      | (apply wl_no_f; rfl; rfl; (with_reducible rfl); rfl)
      | (apply wl_no_u; rfl; rfl; rfl)
      | (refine wl_guard rfl rfl (fun hc => ?_) (fun hc => ?_) <;> (first | (exfalso; contradiction) | ((try simp only [decide_eq_true_eq, decide_eq_false_iff_not, beq_iff_eq, bne_iff_ne, beq_eq_false_iff_ne, bne_eq_false_iff_eq, ne_eq, Decidable.not_not, Bool.not_eq_true', Bool.not_eq_false', Int.not_lt, Int.not_le] at hc); first | (exfalso; omega) | (exfalso; revert hc; decide) | skip)))
      | (with_reducible refine wl_nil ?_))
    | ((with_reducible (apply wc_id)); first
      | (with_reducible refine wc_seq ?_)
      | (with_reducible refine wc_region ?_)
      | (with_reducible refine wc_ret ?_)
      | (refine wc_cond rfl (fun hc => ?_) (fun hc => ?_) <;> (first | (exfalso; contradiction) | ((try simp only [decide_eq_true_eq, decide_eq_false_iff_not, beq_iff_eq, bne_iff_ne, beq_eq_false_iff_ne, bne_eq_false_iff_eq, ne_eq, Decidable.not_not, Bool.not_eq_true', Bool.not_eq_false', Int.not_lt, Int.not_le] at hc); first | (exfalso; omega) | (exfalso; revert hc; decide) | skip)))
      | (with_reducible refine wc_block ?_)
      | (with_reducible refine wc_skip ?_)
      | (with_reducible refine wc_exit ?_)
      | (with_reducible refine wc_quiet (by kernel_rfl) (by kernel_rfl) ?_))
    | ((with_reducible (apply wx_id)); first
      | (with_reducible refine wx_then ?_)
      | (with_reducible refine wx_block ?_)
      | (with_reducible refine wx_block_exit ?_)
      | (with_reducible refine wx_block_other (by rfl) ?_)
      | (with_reducible refine wx_block_ret ?_)
      | (with_reducible refine wx_then_exit ?_)
      | (with_reducible refine wx_then_ret ?_)
      | ((with_reducible (apply wx_pf tt_ok)); (first | exact .inl rfl | exact .inr rfl); (first | exact Try.results3 | rfl); (repeat (first | exact Res.nil | (apply Res.tmp; rfl) | (apply Res.cell; rfl; (repeat (first | exact List.Mem.head _ | apply List.Mem.tail)); rfl))))
      | ((with_reducible (apply wx_rd tt_ok)); (first | exact .inl rfl | exact .inr rfl); (first | exact Try.results3 | rfl); (repeat (first | exact Res.nil | (apply Res.tmp; rfl) | (apply Res.cell; rfl; (repeat (first | exact List.Mem.head _ | apply List.Mem.tail)); rfl))); (first | exact sub_refl | exact sub_drop1 | exact sub_drop2 | exact sub_keeps (ps := [0]) rfl | exact sub_keeps (ps := [1]) rfl | exact sub_keeps (ps := [2]) rfl | exact sub_keeps (ps := [3]) rfl | exact sub_keeps (ps := [0, 0]) rfl | exact sub_keeps (ps := [1, 0]) rfl | exact sub_keeps (ps := [1, 1]) rfl | exact sub_keeps (ps := [0, 1]) rfl | exact sub_keeps (ps := [2, 0]) rfl | exact sub_keeps (ps := [0, 2]) rfl | exact sub_keeps (ps := [2, 1]) rfl | exact sub_keeps (ps := [1, 2]) rfl | exact sub_keeps (ps := [2, 2]) rfl); (first | rfl | skip)))
    | ((with_reducible (apply wq_id)); first
      | (apply wq_arith tt_ok; rfl; rfl; (first | ((with_reducible refine fit_div_i64 ?_ ?_) <;> omega) | ((with_reducible refine fit_div_i32 ?_ ?_) <;> omega) | ((with_reducible refine fit_div_u64 ?_ ?_) <;> omega) | ((with_reducible refine fit_i64 ?_); omega) | ((with_reducible refine fit_i32 ?_); omega) | ((with_reducible refine fit_u64 ?_); omega) | ((with_reducible refine fit_u8 ?_); omega) | ((with_reducible refine fit_u32 ?_); omega) | ((with_reducible refine fit_u16 ?_); omega) | rfl); rfl)
      | (apply wq_boolish tt_ok; rfl; rfl; (first | (with_reducible first | exact bb_not_t | exact bb_not_f | exact bb_eq_t _ | exact bb_eq_f _ | exact bb_t_eq _ | exact bb_f_eq _ | exact bb_ne_t _ | exact bb_ne_f _ | exact bb_t_ne _ | exact bb_f_ne _ | exact bb_same _ | exact bb_nsame _ | exact bi_same _ | exact bi_nsame _) | rfl); rfl)
      | (refine wq_pure tt_ok rfl rfl ?_)
      | (apply wq_load tt_ok; rfl; (repeat (first | exact List.Mem.head _ | apply List.Mem.tail)); rfl; rfl)
      | ((apply wl_rd Try.call11; rfl; rfl; rfl; exact sub_refl; exact hat); rfl)
      | ((apply wl_rd Try.call12; rfl; rfl; rfl; exact sub_refl; exact hgs); rfl)
      | ((apply wq_val (val_at_s (j := i) (ad := ad2) tt_ok rfl rfl rfl rfl rfl (by omega) ha2)); rfl)
      | ((apply wq_val (val_load_old tt_ok rfl hR.2.old rfl rfl ho)); rfl)
      | ((apply wq_val (val_at_s (j := k) (ad := ad1) tt_ok rfl rfl rfl rfl (by omega) (by omega) ha1)); rfl)
      | ((apply wq_val (val_load_old tt_ok rfl hR.1.old rfl rfl hx)); rfl)
      | (apply wq_yes; rfl; rfl; (with_reducible rfl))
      | (apply wq_no_t; rfl; rfl; (with_reducible rfl); rfl)
      | (apply wq_no_f; rfl; rfl; (with_reducible rfl); rfl)
      | (apply wq_no_u; rfl; rfl; rfl)
      | (refine wq_guard rfl rfl (fun hc => ?_) (fun hc => ?_) <;> (first | (exfalso; contradiction) | ((try simp only [decide_eq_true_eq, decide_eq_false_iff_not, beq_iff_eq, bne_iff_ne, beq_eq_false_iff_ne, bne_eq_false_iff_eq, ne_eq, Decidable.not_not, Bool.not_eq_true', Bool.not_eq_false', Int.not_lt, Int.not_le] at hc); first | (exfalso; omega) | (exfalso; revert hc; decide) | skip)))
      | (with_reducible refine wq_nil ?_)))
          all_goals first | exact wx_round (E' := (15, .int .u8 (x.tmod 64)) :: (16, .int .i64 ((k + 1 : Nat) : Int)) :: EQ first a1 a2 xs.length os.length cap1 cap2 fr b) (xs.length - (k + 1)) (by omega) ⟨k + 1, by omega, rfl, rfl, by rw [hly]⟩ (by repeat (first | exact agree_nil | (apply agree_cons; rfl))) sub_refl | rfl
        · have hke : k = xs.length := by omega
          subst hke
          repeat' (first
    | ((with_reducible (apply wl_id)); first
      | (apply wl_arith tt_ok; rfl; rfl; (first | ((with_reducible refine fit_div_i64 ?_ ?_) <;> omega) | ((with_reducible refine fit_div_i32 ?_ ?_) <;> omega) | ((with_reducible refine fit_div_u64 ?_ ?_) <;> omega) | ((with_reducible refine fit_i64 ?_); omega) | ((with_reducible refine fit_i32 ?_); omega) | ((with_reducible refine fit_u64 ?_); omega) | ((with_reducible refine fit_u8 ?_); omega) | ((with_reducible refine fit_u32 ?_); omega) | ((with_reducible refine fit_u16 ?_); omega) | rfl); rfl)
      | (apply wl_boolish tt_ok; rfl; rfl; (first | (with_reducible first | exact bb_not_t | exact bb_not_f | exact bb_eq_t _ | exact bb_eq_f _ | exact bb_t_eq _ | exact bb_f_eq _ | exact bb_ne_t _ | exact bb_ne_f _ | exact bb_t_ne _ | exact bb_f_ne _ | exact bb_same _ | exact bb_nsame _ | exact bi_same _ | exact bi_nsame _) | rfl); rfl)
      | (refine wl_pure tt_ok rfl rfl ?_)
      | (apply wl_load tt_ok; rfl; (repeat (first | exact List.Mem.head _ | apply List.Mem.tail)); rfl; rfl)
      | (refine wl_pf Try.call7 rfl rfl rfl (works_any) (fun _ _ => trivial) rfl ?_)
      | ((apply wl_rd Try.call9; rfl; rfl; rfl; exact sub_refl; exact hkn); rfl)
      | ((apply wl_rd Try.call12; rfl; rfl; rfl; exact sub_refl; exact hg2); rfl)
      | ((apply wl_rd Try.call13; rfl; rfl; rfl; exact sub_refl; exact hno); rfl)
      | (apply wl_store tt_ok; rfl; (repeat (first | exact Upd.here | apply Upd.there)); rfl; rfl; rfl; rfl; rfl; rfl)
      | (refine wl_box rfl rfl rfl (fun _ => ?_))
      | (apply wl_build1 tt_ok; rfl; rfl; rfl; rfl; rfl; intro _)
      | (refine wl_alloc tt_ok rfl rfl (fun _ => ?_))
      | (apply wl_yes; rfl; rfl; (with_reducible rfl))
      | (apply wl_no_t; rfl; rfl; (with_reducible rfl); rfl)
      | (apply wl_no_f; rfl; rfl; (with_reducible rfl); rfl)
      | (apply wl_no_u; rfl; rfl; rfl)
      | (refine wl_guard rfl rfl (fun hc => ?_) (fun hc => ?_) <;> (first | (exfalso; contradiction) | ((try simp only [decide_eq_true_eq, decide_eq_false_iff_not, beq_iff_eq, bne_iff_ne, beq_eq_false_iff_ne, bne_eq_false_iff_eq, ne_eq, Decidable.not_not, Bool.not_eq_true', Bool.not_eq_false', Int.not_lt, Int.not_le] at hc); first | (exfalso; omega) | (exfalso; revert hc; decide) | skip)))
      | (with_reducible refine wl_nil ?_))
    | ((with_reducible (apply wc_id)); first
      | (with_reducible refine wc_seq ?_)
      | (with_reducible refine wc_region ?_)
      | (with_reducible refine wc_ret ?_)
      | (refine wc_cond rfl (fun hc => ?_) (fun hc => ?_) <;> (first | (exfalso; contradiction) | ((try simp only [decide_eq_true_eq, decide_eq_false_iff_not, beq_iff_eq, bne_iff_ne, beq_eq_false_iff_ne, bne_eq_false_iff_eq, ne_eq, Decidable.not_not, Bool.not_eq_true', Bool.not_eq_false', Int.not_lt, Int.not_le] at hc); first | (exfalso; omega) | (exfalso; revert hc; decide) | skip)))
      | (with_reducible refine wc_block ?_)
      | (with_reducible refine wc_skip ?_)
      | (with_reducible refine wc_exit ?_)
      | (with_reducible refine wc_quiet (by kernel_rfl) (by kernel_rfl) ?_))
    | ((with_reducible (apply wx_id)); first
      | (with_reducible refine wx_then ?_)
      | (with_reducible refine wx_block ?_)
      | (with_reducible refine wx_block_exit ?_)
      | (with_reducible refine wx_block_other (by rfl) ?_)
      | (with_reducible refine wx_block_ret ?_)
      | (with_reducible refine wx_then_exit ?_)
      | (with_reducible refine wx_then_ret ?_)
      | ((with_reducible (apply wx_pf tt_ok)); (first | exact .inl rfl | exact .inr rfl); (first | exact Try.results3 | rfl); (repeat (first | exact Res.nil | (apply Res.tmp; rfl) | (apply Res.cell; rfl; (repeat (first | exact List.Mem.head _ | apply List.Mem.tail)); rfl))))
      | ((with_reducible (apply wx_rd tt_ok)); (first | exact .inl rfl | exact .inr rfl); (first | exact Try.results3 | rfl); (repeat (first | exact Res.nil | (apply Res.tmp; rfl) | (apply Res.cell; rfl; (repeat (first | exact List.Mem.head _ | apply List.Mem.tail)); rfl))); (first | exact sub_refl | exact sub_drop1 | exact sub_drop2 | exact sub_keeps (ps := [0]) rfl | exact sub_keeps (ps := [1]) rfl | exact sub_keeps (ps := [2]) rfl | exact sub_keeps (ps := [3]) rfl | exact sub_keeps (ps := [0, 0]) rfl | exact sub_keeps (ps := [1, 0]) rfl | exact sub_keeps (ps := [1, 1]) rfl | exact sub_keeps (ps := [0, 1]) rfl | exact sub_keeps (ps := [2, 0]) rfl | exact sub_keeps (ps := [0, 2]) rfl | exact sub_keeps (ps := [2, 1]) rfl | exact sub_keeps (ps := [1, 2]) rfl | exact sub_keeps (ps := [2, 2]) rfl); (first | rfl | skip)))
    | ((with_reducible (apply wq_id)); first
      | (apply wq_arith tt_ok; rfl; rfl; (first | ((with_reducible refine fit_div_i64 ?_ ?_) <;> omega) | ((with_reducible refine fit_div_i32 ?_ ?_) <;> omega) | ((with_reducible refine fit_div_u64 ?_ ?_) <;> omega) | ((with_reducible refine fit_i64 ?_); omega) | ((with_reducible refine fit_i32 ?_); omega) | ((with_reducible refine fit_u64 ?_); omega) | ((with_reducible refine fit_u8 ?_); omega) | ((with_reducible refine fit_u32 ?_); omega) | ((with_reducible refine fit_u16 ?_); omega) | rfl); rfl)
      | (apply wq_boolish tt_ok; rfl; rfl; (first | (with_reducible first | exact bb_not_t | exact bb_not_f | exact bb_eq_t _ | exact bb_eq_f _ | exact bb_t_eq _ | exact bb_f_eq _ | exact bb_ne_t _ | exact bb_ne_f _ | exact bb_t_ne _ | exact bb_f_ne _ | exact bb_same _ | exact bb_nsame _ | exact bi_same _ | exact bi_nsame _) | rfl); rfl)
      | (refine wq_pure tt_ok rfl rfl ?_)
      | (apply wq_load tt_ok; rfl; (repeat (first | exact List.Mem.head _ | apply List.Mem.tail)); rfl; rfl)
      | (refine wq_pf Try.call7 rfl rfl rfl (works_any) (fun _ _ => trivial) rfl ?_)
      | ((apply wl_rd Try.call9; rfl; rfl; rfl; exact sub_refl; exact hkn); rfl)
      | ((apply wl_rd Try.call12; rfl; rfl; rfl; exact sub_refl; exact hg2); rfl)
      | ((apply wl_rd Try.call13; rfl; rfl; rfl; exact sub_refl; exact hno); rfl)
      | (apply wq_yes; rfl; rfl; (with_reducible rfl))
      | (apply wq_no_t; rfl; rfl; (with_reducible rfl); rfl)
      | (apply wq_no_f; rfl; rfl; (with_reducible rfl); rfl)
      | (apply wq_no_u; rfl; rfl; rfl)
      | (refine wq_guard rfl rfl (fun hc => ?_) (fun hc => ?_) <;> (first | (exfalso; contradiction) | ((try simp only [decide_eq_true_eq, decide_eq_false_iff_not, beq_iff_eq, bne_iff_ne, beq_eq_false_iff_ne, bne_eq_false_iff_eq, ne_eq, Decidable.not_not, Bool.not_eq_true', Bool.not_eq_false', Int.not_lt, Int.not_le] at hc); first | (exfalso; omega) | (exfalso; revert hc; decide) | skip)))
      | (with_reducible refine wq_nil ?_)))
          all_goals first | rfl

theorem queueAny_walk (W : World) (v0 v1 v2 : Value) (R0 : Rdw TT W 8 22 [v0]) (R1 : Rdw TT W 8 23 [v1]) (R2 : Rdw TT W 8 24 [v2]) :
    Calls Try.prog 3 #[v0, v1, v2] W fun e w' => e = .returned (.bool true) ∧ Inv W [] w' [] := by
  obtain ⟨first, rfl, wf⟩ := rd_cell R0 rfl
  obtain ⟨a1, ad1, xs, cap1, rfl, h1⟩ := rd_bytes R1 rfl rfl
  obtain ⟨a2, ad2, os, cap2, rfl, h2⟩ := rd_bytes R2 rfl rfl
  exact (queueAny_core first xs os a1 a2 ad1 ad2 cap1 cap2 (wf_u64 wf)).run W ⟨h1, h2⟩

end Go.Proofs.Ytfjmhnfaoifehaa
