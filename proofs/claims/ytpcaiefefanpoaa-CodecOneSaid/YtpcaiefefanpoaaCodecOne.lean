/-
  Chapter 02: the law CodecOne: what was read without an error, written anew, is what was read.
-/
import Derived.Test.YtpcaiefefanpoaaCodecBackPure
import Derived.Test.YtpcaiefefanpoaaRows
import Derived.Test.YtpcaiefefanpoaaWalk
namespace Go.Proofs.Ytpcaiefefanpoaa
open Go.Proofs.Ytpcaiefefanpoaa.Eng Go.RowKit Go.ChangeShapes Go.WideShapes Go.ChangeAt
set_option linter.unusedSimpArgs false
set_option linter.unusedVariables false
set_option maxHeartbeats 2000000
set_option maxRecDepth 20000

variable {F : Nat}

theorem toB_append (a b : List Int) : toB (a ++ b) = toB a ++ toB b := by simp [toB]
theorem toB_length (a : List Int) : (toB a).length = a.length := by simp [toB]
theorem toB_fromB (s : List UInt8) : toB (fromB s) = s := by
  simp only [toB, fromB, List.map_map]
  conv => rhs; rw [← List.map_id s]
  apply List.map_congr_left
  intro b _
  simp
theorem vb_length : ∀ f n, (vb f n).length ≤ f + 1
  | 0, n => by simp [vb]
  | f + 1, n => by
    have := vb_length f (n / 128)
    unfold vb; split <;> simp <;> omega

theorem one_works : m_hindcastlaw02_works 200 = some true := by kernel_rfl

/-- What was written was read. -/
theorem one_grow {S : List UInt8} {a a' : Nat} {b d : List Int} (h1 : toB b = S.take a) (h2 : a ≤ a') (h3 : a' ≤ S.length) (h4 : toB d = (S.drop a).take (a' - a)) : toB (b ++ d) = S.take a' := by
  rw [toB_append, h1, h4, show a' = a + (a' - a) by omega, List.take_add, show a + (a' - a) - a = a' - a by omega]

theorem one_len {S : List UInt8} {a : Nat} {b : List Int} (h : toB b = S.take a) (ha : a ≤ S.length) : b.length = a := by
  have := congrArg List.length h
  rw [toB_length, List.length_take] at this
  omega

theorem textv_one {S : List UInt8} {a : Nat} {e : Int} (h : (textv S a e).2.1 = 0) (hS : S.length ≤ 1000000) : e = 0 ∧ a ≤ (textv S a e).1 ∧ (textv S a e).1 ≤ S.length ∧
    bt (vb 9 (textv S a e).2.2.length) ++ (textv S a e).2.2 = (S.drop a).take ((textv S a e).1 - a) := by
  unfold textv at h ⊢
  by_cases hr : (readv S a e).2.1 = 0
  · rw [if_neg (by simp [hr])] at h ⊢
    obtain ⟨r1, r2, r3, r4, r5⟩ := readv_one hr
    generalize readv S a e = r at *
    obtain ⟨a', e', v⟩ := r
    simp only at *
    by_cases h1 : a' + v ≤ S.length
    · rw [if_pos h1] at h ⊢
      have hl : ((S.drop a').take v).length = v := by rw [List.length_take, List.length_drop]; omega
      refine ⟨r1, by simp only; omega, h1, ?_⟩
      simp only [hl, r5]
      rw [show a' + v - a = (a' - a) + v by omega, List.take_add, List.drop_drop, show a + (a' - a) = a' by omega]
    · rw [if_neg h1] at h; simp at h
  · rw [if_pos (by simpa using hr)] at h
    exact absurd h hr

theorem one_loop {S : List UInt8} {ks : List Int} (hS : S.length ≤ 1000) (hk : ks.length ≤ 60) : ∀ (m j a : Nat) (b : List Int), a ≤ S.length → j ≤ ks.length → ks.length - j < m → toB b = S.take a →
    m_hindcastlaw02_CodecOne_L26 200 S ks m (j : Int) (rdr S a 0) b = some (.inr true) ∨
    ∃ a' b', m_hindcastlaw02_CodecOne_L26 200 S ks m (j : Int) (rdr S a 0) b = some (.inl (false, rdr S a' 0, b')) ∧ toB b' = S.take a'
  | 0, j, a, b, ha, hj, hm, hb => by omega
  | m + 1, j, a, b, ha, hj, hm, hb => by
    rw [m_hindcastlaw02_CodecOne_L26.eq_2]
    by_cases h1 : j < ks.length
    · obtain ⟨x, hx⟩ : ∃ x, ks[j]? = some x := ⟨_, List.getElem?_eq_getElem h1⟩
      have hw : IntKind.wrap .i64 ((j : Int) + 1) = ((j + 1 : Nat) : Int) := by rw [wr_i64 ⟨by omega, by omega⟩]; omega
      have hbl := one_len hb ha
      have tail : ∀ (a' : Nat) (e' : Int) (d : List Int), (e' = 0 → a ≤ a' ∧ a' ≤ S.length ∧ toB d = (S.drop a).take (a' - a)) →
        ∀ X, X = (Option.bind (some (rdr S a' e', b ++ d)) fun (j41_n19_0, j41_n23_f0) => (Option.bind
        (m_codec_Reader_Err 200 j41_n19_0) fun v78 => (cond (v78 != (0 : Int)) (Option.bind (cond (decide (((toB b).length : Int) ≤ (S.length : Int)))
        ((Option.bind (cutI S 0 ((toB b).length : Int)) fun v90 => some (((toB b) == v90)))) (some (false))) fun v92 => (Option.bind (cond v92 ((Option.bind
        (m_hindcastlaw02_works 200) fun v94 => some (v94))) (some (false))) fun v95 => some (.inr v95))) (m_hindcastlaw02_CodecOne_L26 200 S ks m
        (IntKind.wrap .i64 ((j : Int) + (1 : Int))) j41_n19_0 j41_n23_f0)))) →
        (X = some (.inr true) ∨ ∃ a' b', X = some (.inl (false, rdr S a' 0, b')) ∧ toB b' = S.take a') := by
        intro a' e' d hd X hX
        subst hX
        have hE : m_codec_Reader_Err 200 (rdr S a' e') = some e' := rfl
        simp only [Option.bind_some, hE]
        by_cases he : e' = 0
        · subst he
          obtain ⟨d1, d2, d3⟩ := hd rfl
          have ih := one_loop hS hk m (j + 1) a' (b ++ d) d2 (by omega) (by omega) (one_grow hb d1 d2 d3)
          simp only [show ((0 : Int) != 0) = false from rfl, cond_false, hw]
          exact ih
        · left
          have hc : cutI S 0 ((toB b).length : Int) = some (toB b) := by
            refine cutI_of (i := 0) (j := (toB b).length) rfl rfl (by omega) (by rw [toB_length]; omega) ?_
            rw [List.drop_zero, toB_length, hbl, hb]
          simp only [bne_iff_ne.2 he, cond_true, decide_eq_true (show ((toB b).length : Int) ≤ (S.length : Int) by rw [toB_length]; omega), hc, Option.bind_some, beq_self_eq_true, one_works]
      have p1 := get8_of (F := 200) (e := 0) ha (by omega) (by omega)
      have p2 := get16_of (F := 200) (e := 0) ha (by omega) (by omega)
      have p4 := get32_of (F := 200) (e := 0) ha (by omega) (by omega)
      have p8 := get64_of (F := 200) (e := 0) ha (by omega) (by omega)
      have pv := var_r (F := 200) (e := 0) ha (by omega) (by omega)
      have pt := text_r (F := 200) (e := 0) ha (by omega) (by omega)
      have l1 := numv_lt (S := S) (a := a) (k := 1) (e := 0) (by omega)
      have l2 := numv_lt (S := S) (a := a) (k := 2) (e := 0) (by omega)
      have l4 := numv_lt (S := S) (a := a) (k := 4) (e := 0) (by omega)
      have l8 := numv_lt (S := S) (a := a) (k := 8) (e := 0) (by omega)
      have num : ∀ k, (numv S a 0 k).2.1 = 0 → a ≤ (numv S a 0 k).1 ∧ (numv S a 0 k).1 ≤ S.length ∧ toB (iL (le k (numv S a 0 k).2.2)) = (S.drop a).take ((numv S a 0 k).1 - a) := by
        intro k hk
        obtain ⟨_, h2, h3, h4⟩ := numv_one hk
        refine ⟨by omega, by omega, ?_⟩
        rw [h2, show a + k - a = k by omega]
        exact h4
      simp only [decide_eq_true (show (j : Int) < (ks.length : Int) by omega), cond_true, getI_nat, hx, Option.bind_some, m_codec_Writer_Bytes]
      by_cases h0 : Int.tmod x 7 = 0
      · simp only [h0, beq_self_eq_true, cond_true, m_codec_Reader_U8, p1, Option.bind_some, U8_of (F := 200) (w := ⟨b⟩) (n := (numv S a 0 1).2.2) (by omega) (by omega) (by simp only; omega)]
        exact tail _ _ _ (num 1) _ rfl
      · by_cases h2 : Int.tmod x 7 = 1
        · simp only [h2, show ((1 : Int) == 0) = false from rfl, cond_false, beq_self_eq_true, cond_true, m_codec_Reader_U16, p2, Option.bind_some, U16_of (F := 200) (w := ⟨b⟩) (n := (numv S a 0 2).2.2) (by omega) (by omega) (by simp only; omega)]
          exact tail _ _ _ (num 2) _ rfl
        · by_cases h3 : Int.tmod x 7 = 2
          · simp only [h3, show ((2 : Int) == 0) = false from rfl, show ((2 : Int) == 1) = false from rfl, cond_false, beq_self_eq_true, cond_true, m_codec_Reader_U32, p4, Option.bind_some, U32_of (F := 200) (w := ⟨b⟩) (n := (numv S a 0 4).2.2) (by omega) (by omega) (by simp only; omega)]
            exact tail _ _ _ (num 4) _ rfl
          · by_cases h4 : Int.tmod x 7 = 3
            · simp only [h4, show ((3 : Int) == 0) = false from rfl, show ((3 : Int) == 1) = false from rfl, show ((3 : Int) == 2) = false from rfl, cond_false, beq_self_eq_true, cond_true, m_codec_Reader_U64, p8, Option.bind_some, U64_of (F := 200) (w := ⟨b⟩) (n := (numv S a 0 8).2.2) (by omega) (by omega) (by simp only; omega)]
              exact tail _ _ _ (num 8) _ rfl
            · by_cases h5 : Int.tmod x 7 = 4
              · have hwi : IntKind.wrap .u32 (IntKind.wrap .i32 (((numv S a 0 4).2.2 : Nat) : Int)) = (((numv S a 0 4).2.2 : Nat) : Int) := by rw [wr_i32m, Nat.mod_eq_of_lt (by omega)]
                simp only [h5, show ((4 : Int) == 0) = false from rfl, show ((4 : Int) == 1) = false from rfl, show ((4 : Int) == 2) = false from rfl, show ((4 : Int) == 3) = false from rfl, cond_false, beq_self_eq_true, cond_true, m_codec_Reader_I32, p4, Option.bind_some, I32_of (F := 200) (w := ⟨b⟩) (n := (numv S a 0 4).2.2) hwi (by omega) (by omega) (by simp only; omega)]
                exact tail _ _ _ (num 4) _ rfl
              · by_cases h6 : Int.tmod x 7 = 5
                · have hv : (readv S a 0).2.2 < 18446744073709551616 := by
                    rcases Decidable.em ((readv S a 0).2.1 = 0) with h | h
                    · exact (readv_one h).2.1
                    · exact readv_lt
                  simp only [h6, show ((5 : Int) == 0) = false from rfl, show ((5 : Int) == 1) = false from rfl, show ((5 : Int) == 2) = false from rfl, show ((5 : Int) == 3) = false from rfl, show ((5 : Int) == 4) = false from rfl, cond_false, beq_self_eq_true, cond_true, pv, Option.bind_some, Var_of (F := 200) (w := ⟨b⟩) hv (by omega) (by simp only; omega)]
                  refine tail _ _ _ (fun h => ?_) _ rfl
                  obtain ⟨_, _, r3, r4, r5⟩ := readv_one h
                  exact ⟨by omega, r4, r5⟩
                · have ht : (textv S a 0).2.2.length ≤ 1000 := textv_short (by omega)
                  have hwl : IntKind.wrap .u64 ((textv S a 0).2.2.length : Int) = (((textv S a 0).2.2.length : Nat) : Int) := wr_u64 ⟨by omega, by omega⟩
                  have hvl := vb_length 9 (textv S a 0).2.2.length
                  simp only [beq_eq_false_iff_ne.2 h0, beq_eq_false_iff_ne.2 h2, beq_eq_false_iff_ne.2 h3, beq_eq_false_iff_ne.2 h4, beq_eq_false_iff_ne.2 h5, beq_eq_false_iff_ne.2 h6, cond_false, pt, Option.bind_some, m_codec_Writer_Text, hwl, Var_of (F := 200) (w := ⟨b⟩) (n := (textv S a 0).2.2.length) (by omega) (by omega) (by simp only; omega)]
                  rw [appI_of (by simp [iL, fromB]; omega)]
                  simp only [Option.bind_some, List.append_assoc]
                  refine tail _ _ _ (fun h => ?_) _ rfl
                  obtain ⟨_, t2, t3, t4⟩ := textv_one h (by omega)
                  refine ⟨t2, t3, ?_⟩
                  rw [toB_append, toB_fromB]
                  exact t4
    · right
      simp only [decide_eq_false (show ¬ (j : Int) < (ks.length : Int) by omega), cond_false]
      exact ⟨a, b, rfl, hb⟩

theorem codecOne_pure (S : List UInt8) (ks : List Int) : m_hindcastlaw02_CodecOne 200 S ks = some true := by
  simp only [m_hindcastlaw02_CodecOne, one_works]
  by_cases h1 : (1000 : Int) < (S.length : Int)
  · simp only [decide_eq_true h1, cond_true, Option.bind_some]
  · by_cases h2 : (60 : Int) < (ks.length : Int)
    · simp only [decide_eq_false h1, decide_eq_true h2, cond_true, cond_false, Option.bind_some]
    · have hl := one_loop (S := S) (ks := ks) (by omega) (by omega) 200 0 0 [] (by omega) (by omega) (by omega) (by simp [toB])
      have hn : m_codec_New 200 S = some (rdr S 0 0) := rfl
      simp only [decide_eq_false h1, decide_eq_false h2, cond_false, Option.bind_some, hn]
      rcases hl with hl | ⟨a', b', hl, hb⟩
      · have hl' : m_hindcastlaw02_CodecOne_L26 200 S ks 200 (0 : Int) (rdr S 0 0) ([] : List Int) = some (.inr true) := hl
        simp only [hl', Option.bind_some, orE_r]
      · have hl' : m_hindcastlaw02_CodecOne_L26 200 S ks 200 (0 : Int) (rdr S 0 0) ([] : List Int) = some (.inl (false, rdr S a' 0, b')) := hl
        have hR : m_codec_Reader_Rest 200 (rdr S a' 0) = some (S.drop a') := rfl
        simp only [hl', Option.bind_some, orE_l, m_codec_Writer_Bytes, hR, hb]
        rw [appI_of (by rw [List.length_take, List.length_drop]; omega)]
        simp only [Option.bind_some, List.take_append_drop, beq_self_eq_true, cond_true, one_works]

theorem codecOne_walk (W : World) (v0 v1 : Value) (R0 : Rdw TT W 8 9 [v0]) (R1 : Rdw TT W 8 26 [v1]) : Calls Try.prog 7 #[v0, v1] W fun e w' => e = .returned (.bool true) ∧ Inv W [] w' [] := by
  obtain ⟨s, hs, _⟩ := rd_str R0 rfl
  obtain rfl : v0 = .string s := List.cons.inj hs |>.1
  obtain ⟨a, n, cap, xs, rfl, hn, hc, _, hr, _⟩ := rd_list (enc := e1 .u8) (ok := fun _ => True) R1 rfl rfl (e1_len _) (fun es _ h => by
    obtain ⟨x, hx, _⟩ := rd_int h rfl
    exact ⟨x, hx, trivial⟩)
  exact (k_hindcastlaw02_CodecOne (p0 := s.data.toList) hn hc (codecOne_pure _ _)).run W hr

set_option maxRecDepth 100000 in
theorem codecOne_lifted (os : Os) (started : os.Started) (H : Type) (enc : TypeId × Value → H) :
    ReturnsInHanded {} Try.checked os 7 .any (Rows.codecOneSpec.pre6 enc Try.prog Try.f7 Rows.codecOneRow.domain false) (Rows.codecOneSpec.post enc Try.prog Try.f7 false true false false) := by
  refine returnsInHanded_of_change_sized (C := Try.checked) (by kernel_rfl) started (by kernel_rfl) Try.func7
    (ChangeSpec.witness6 (enc := enc) (C := Try.checked) false ⟨#[], #[.string ByteArray.empty, .slice none 0 0], []⟩ 8 (by kernel_rfl) (by kernel_rfl) (by kernel_rfl) (by kernel_rfl)) ?_
  intro W base args ds gs before hval0 hW hcnd hsz0 _
  have hval : ∀ (j : Nat) t v, Try.f7.params[j]? = some t → args[j]? = some v → Value.okWide Try.prog W .any base t v := hval0
  have hW' := hW
  obtain ⟨p, q, hA0, hV, rfl, hfz, hnd⟩ := hW
  have hA : DataW.TrodAll enc Try.prog W 0 (fun _ => true) true Try.f7.params.toList args.toList ds p := hA0
  obtain ⟨rfl, rfl⟩ := trodVars_none hV
  have hsz : ∀ x ∈ DataW.weightsEach Try.prog Try.f7.params.toList ds, x ≤ maxB := by
    have h1 : (DataW.weightsEach Try.prog (Try.f7.params.toList ++ []) (ds ++ [])).all (· ≤ reachBytes) = true := hsz0
    simp only [List.append_nil] at h1
    intro x hx; have h2 := List.all_eq_true.1 h1 x hx; simp only [decide_eq_true_eq] at h2; exact h2
  rw [Try.params7] at hA hval hsz
  have hR := rdw_all tt_ok ctt_ok (closed_of tt_closed) (fun _ => rfl) 8 hA hsz
  have hback := fun (W2 : World) (hb : Below W.heap.size W W2) => trodAll_below (by kernel_rfl : laidOutB Try.prog = true) hb (by kernel_rfl) hA
  obtain ⟨v0, vs0, d0, ds0, p0, q0, hargs, rfl, rfl, h0, r0⟩ := trodAll_cons hA
  obtain ⟨v1, vs1, d1, ds1, p1, q1, rfl, rfl, rfl, h1, r1⟩ := trodAll_cons r0
  obtain ⟨rfl, rfl, rfl⟩ := trodAll_nil r1
  obtain rfl : args = #[v0, v1] := by cases args; simp_all
  have R0 := hR 0 9 v0 rfl rfl
  have e0 := val_one tt_ok (t := 9) rfl (by intro h; cases h) rfl (hval 0 9 v0 rfl rfl)
  rw [e0] at R0
  have R1 := hR 1 26 v1 rfl rfl
  have e1 := val_one tt_ok (t := 26) rfl (by intro h; cases h) rfl (hval 1 26 v1 rfl rfl)
  rw [e1] at R1
  clear hval hval0 hsz hsz0 hR hA0
  refine (codecOne_walk W v0 v1 R0 R1).mono fun e W2 ⟨he, hI⟩ => ?_
  subst he
  exact ⟨_, rfl, _, _, _, [], _, [], hW', trodAll_mk1 (shut_bool Try.underlying4 _), hback _ (below_of_inv hI), rfl, (below_of_inv hI).frame _, fun h => by cases h⟩

theorem codecOne_holds : Rows.CodecOneSaid :=
  OpenClaim.holds_of_wide 7 Try.f7 rfl rfl rfl rfl rfl rfl rfl ⟨rfl, rfl, rfl, rfl, rfl⟩ rfl rfl rfl rfl rfl (by kernel_rfl) Try.func7 (by kernel_rfl)
    (of_decide_eq_true (by kernel_rfl)) (by unfold Func.isWrapper; first | (rw [if_pos (by decide +kernel)]; kernel_rfl) | (rw [if_neg (by decide +kernel)]; exact ⟨rfl, rfl⟩))
    (fun os started H enc _ => codecOne_lifted os started H enc)

end Go.Proofs.Ytpcaiefefanpoaa
