/-
  Chapter 02: the law CodecReads: what any bytes are, read in any way, and what is wrong with them.
-/
import Derived.Test.YtpcaiefefanpoaaCodecVarPure
import Derived.Test.YtpcaiefefanpoaaRows
import Derived.Test.YtpcaiefefanpoaaWalk
namespace Go.Proofs.Ytpcaiefefanpoaa
open Go.Proofs.Ytpcaiefefanpoaa.Eng Go.RowKit Go.ChangeShapes Go.WideShapes Go.ChangeAt
set_option linter.unusedSimpArgs false
set_option linter.unusedVariables false
set_option maxHeartbeats 2000000
set_option maxRecDepth 20000

variable {F : Nat}

theorem varv_le {S : List UInt8} : ∀ (f a i n : Nat), a ≤ S.length → (varv S f a i n).1 ≤ S.length
  | 0, a, i, n, h => h
  | f + 1, a, i, n, h => by
    unfold varv
    rcases hx : S[a]? with _ | c
    · exact h
    · have hlt : a < S.length := (List.getElem?_eq_some_iff.1 hx).1
      simp only
      split
      · exact hlt
      · split
        · exact hlt
        · split
          · exact hlt
          · exact varv_le f _ _ _ hlt

def readv (S : List UInt8) (a : Nat) (e : Int) : Nat × Int × Nat := if e = 0 then varv S 10 a 0 0 else (a, e, 0)

theorem readv_le {S : List UInt8} {a : Nat} {e : Int} (ha : a ≤ S.length) : (readv S a e).1 ≤ S.length := by
  unfold readv; split
  · exact varv_le _ _ _ _ ha
  · exact ha

theorem var_r {S : List UInt8} {a : Nat} {e : Int} (ha : a ≤ S.length) (hS : S.length ≤ 1000000) (hF : 20 ≤ F) :
    m_codec_Reader_Var F (rdr S a e) = some (rdr S (readv S a e).1 (readv S a e).2.1, (((readv S a e).2.2 : Nat) : Int)) := by
  unfold readv
  simp only [m_codec_Reader_Var]
  by_cases he : e = 0
  · subst he
    have h := var_loop (F := F) hS 10 F a 0 0 (by omega) (by omega) ha (by simp) (by omega)
    have h' : m_codec_Reader_Var_L14 F F 0 0 (rdr S a 0) = some (.inr (rdr S (varv S 10 a 0 0).1 (varv S 10 a 0 0).2.1, (((varv S 10 a 0 0).2.2 : Nat) : Int))) := h
    rw [h', if_pos rfl]
    rfl
  · obtain ⟨m, rfl⟩ : ∃ m, F = m + 1 := ⟨F - 1, by omega⟩
    have ht := take_err (F := m + 1) (s := []) (e := e) (n := 1) he
    rw [m_codec_Reader_Var_L14.eq_2, if_neg he]
    simp only [rdr, if_neg he, ht, Option.bind_some]
    rfl

theorem var_q {S : List UInt8} {a : Nat} {e : Int} (ha : a ≤ S.length) (hS : S.length ≤ 1000000) (hF : 20 ≤ F) :
    m_hindcastref02_Reader_Var F (rref S a e) = some (rref S (readv S a e).1 (readv S a e).2.1, (((readv S a e).2.2 : Nat) : Int)) := by
  unfold readv
  simp only [m_hindcastref02_Reader_Var]
  by_cases he : e = 0
  · subst he
    have h := rvar_loop2 (F := F) hS (by omega) 10 F a 0 0 (by omega) (by omega) ha (by simp) (by omega)
    have h' : m_hindcastref02_Reader_Var_L10 F F 0 1 1 (rref S a 0) = some (.inr (rref S (varv S 10 a 0 0).1 (varv S 10 a 0 0).2.1, (((varv S 10 a 0 0).2.2 : Nat) : Int))) := h
    rw [h', if_pos rfl]
    rfl
  · obtain ⟨m, rfl⟩ : ∃ m, F = m + 1 := ⟨F - 1, by omega⟩
    rw [m_hindcastref02_Reader_Var_L10.eq_2, if_neg he]
    have : ((rref S a e).E == 0) = false := beq_eq_false_iff_ne.2 he
    rw [this]
    rfl

def textv (S : List UInt8) (a : Nat) (e : Int) : Nat × Int × List UInt8 :=
  if (readv S a e).2.1 ≠ 0 then ((readv S a e).1, (readv S a e).2.1, []) else
    if (readv S a e).1 + (readv S a e).2.2 ≤ S.length then ((readv S a e).1 + (readv S a e).2.2, 0, (S.drop (readv S a e).1).take (readv S a e).2.2) else ((readv S a e).1, 10, [])

theorem textv_le {S : List UInt8} {a : Nat} {e : Int} (ha : a ≤ S.length) : (textv S a e).1 ≤ S.length := by
  have := readv_le (e := e) ha
  unfold textv; split
  · exact this
  · split
    · assumption
    · exact this

theorem text_r {S : List UInt8} {a : Nat} {e : Int} (ha : a ≤ S.length) (hS : S.length ≤ 1000000) (hF : 20 ≤ F) :
    m_codec_Reader_Text F (rdr S a e) = some (rdr S (textv S a e).1 (textv S a e).2.1, (textv S a e).2.2) := by
  have hle := readv_le (e := e) ha
  simp only [m_codec_Reader_Text, var_r ha hS hF, Option.bind_some]
  unfold textv
  generalize readv S a e = r at *
  obtain ⟨a', e', v⟩ := r
  simp only at hle ⊢
  by_cases he : e' = 0
  · subst he
    have h0 : ((rdr S a' 0).left.e != 0) = false := rfl
    simp only [h0, cond_false, ne_eq, not_true_eq_false, if_false]
    by_cases h1 : a' + v ≤ S.length
    · have ht := take_ok (F := F) (s := S.drop a') (n := v) (by simp; omega) (by simp; omega)
      have ht' : m_codec_left_take F (rdr S a' 0).left (v : Int) = some (⟨(S.drop a').drop v, 0⟩, (S.drop a').take v, true) := ht
      simp only [ht', Option.bind_some, if_pos h1, List.drop_drop]
      rfl
    · have ht := take_short (F := F) (s := S.drop a') (n := (v : Int)) (by simp; omega) (by simp; omega)
      have ht' : m_codec_left_take F (rdr S a' 0).left (v : Int) = some (⟨[], 10⟩, [], false) := ht
      simp only [ht', Option.bind_some, if_neg h1]
      rfl
  · have h0 : ((rdr S a' e').left.e != 0) = true := bne_iff_ne.2 he
    simp only [h0, cond_true, ne_eq, he, not_false_eq_true, if_true]

theorem text_q {S : List UInt8} {a : Nat} {e : Int} (ha : a ≤ S.length) (hS : S.length ≤ 1000000) (hF : 20 ≤ F) :
    m_hindcastref02_Reader_Text F (rref S a e) = some (rref S (textv S a e).1 (textv S a e).2.1, (textv S a e).2.2) := by
  have hle := readv_le (e := e) ha
  simp only [m_hindcastref02_Reader_Text, var_q ha hS hF, Option.bind_some]
  unfold textv
  generalize readv S a e = r at *
  obtain ⟨a', e', v⟩ := r
  simp only at hle ⊢
  by_cases he : e' = 0
  · subst he
    have h0 : ((rref S a' 0).E != 0) = false := rfl
    have hw : IntKind.wrap .u64 (IntKind.wrap .i64 (((rref S a' 0).S.length : Int) - (rref S a' 0).At)) = ((S.length - a' : Nat) : Int) := by
      show IntKind.wrap .u64 (IntKind.wrap .i64 ((S.length : Int) - (a' : Int))) = _
      rw [wr_i64 ⟨by omega, by omega⟩, wr_u64 ⟨by omega, by omega⟩]; omega
    simp only [h0, cond_false, ne_eq, not_true_eq_false, if_false, hw]
    by_cases h1 : a' + v ≤ S.length
    · have e2 : IntKind.wrap .i64 ((rref S a' 0).At + IntKind.wrap .i64 (v : Int)) = ((a' + v : Nat) : Int) := by
        show IntKind.wrap .i64 ((a' : Int) + IntKind.wrap .i64 (v : Int)) = _
        rw [wr_i64 (x := (v : Int)) ⟨by omega, by omega⟩, wr_i64 ⟨by omega, by omega⟩]; omega
      have ec : cutI (rref S a' 0).S (rref S a' 0).At ((a' + v : Nat) : Int) = some ((S.drop a').take v) :=
        cutI_of (i := a') (j := a' + v) rfl rfl (by omega) h1 (by rw [List.drop_take]; congr 1; omega)
      simp only [decide_eq_false (show ¬ ((S.length - a' : Nat) : Int) < (v : Int) by omega), cond_false, e2, ec, Option.bind_some, if_pos h1]
      rfl
    · simp only [decide_eq_true (show ((S.length - a' : Nat) : Int) < (v : Int) by omega), cond_true, if_neg h1]
      rfl
  · have h0 : ((rref S a' e').E != 0) = true := bne_iff_ne.2 he
    simp only [h0, cond_true, ne_eq, he, not_false_eq_true, if_true]

theorem numv_le {S : List UInt8} {a k : Nat} {e : Int} (ha : a ≤ S.length) : (numv S a e k).1 ≤ S.length := by
  unfold numv; split
  · split
    · assumption
    · exact ha
  · exact ha
theorem numv_lt {S : List UInt8} {a k : Nat} {e : Int} (hk : k ≤ 8) : (numv S a e k).2.2 < 256 ^ k := by
  unfold numv; split
  · split
    · have := lev_lt ((S.drop a).take k)
      have hl : ((S.drop a).take k).length = k := by simp; omega
      rw [hl] at this
      exact this
    · exact Nat.pow_pos (by omega)
  · exact Nat.pow_pos (by omega)

theorem rest_q {S : List UInt8} {a : Nat} {e : Int} (ha : a ≤ S.length) : m_hindcastref02_Reader_Rest F (rref S a e) = some (rdr S a e).left.s := by
  simp only [m_hindcastref02_Reader_Rest]
  by_cases he : e = 0
  · subst he
    have ec : cutI (rref S a 0).S (rref S a 0).At ((rref S a 0).S.length : Int) = some (S.drop a) := cutI_of (i := a) (j := S.length) rfl rfl ha (Nat.le_refl _) (by show S.drop a = (S.take S.length).drop a; rw [List.take_length])
    rw [ec]
    rfl
  · have h0 : ((rref S a e).E != 0) = true := bne_iff_ne.2 he
    rw [h0]
    simp [rdr, he]

theorem reads_loop {S : List UInt8} {ks : List Int} (hF : 100 ≤ F) (hS : S.length ≤ 3000) (hk : ks.length ≤ 60) : ∀ (m j a : Nat) (e : Int), a ≤ S.length → j ≤ ks.length → ks.length - j < m →
    ∃ s, m_hindcastlaw02_CodecReads_L26 F ks m (j : Int) (rdr S a e) (rref S a e) = some (.inl (false, s))
  | 0, j, a, e, ha, hj, hm => by omega
  | m + 1, j, a, e, ha, hj, hm => by
    rw [m_hindcastlaw02_CodecReads_L26.eq_2]
    by_cases h1 : j < ks.length
    · obtain ⟨x, hx⟩ : ∃ x, ks[j]? = some x := ⟨_, List.getElem?_eq_getElem h1⟩
      have hw : IntKind.wrap .i64 ((j : Int) + 1) = ((j + 1 : Nat) : Int) := by rw [wr_i64 ⟨by omega, by omega⟩]; omega
      have tail : ∀ (a' : Nat) (e' : Int), a' ≤ S.length → ∃ s, (Option.bind (some (true, rdr S a' e', rref S a' e')) fun (j41_8, j41_n26_0, j41_n31) => (Option.bind (cond (!j41_8) (some
        (true)) ((Option.bind (m_codec_Reader_Err F j41_n26_0) fun v106 => some ((v106 != j41_n31.E))))) fun v112 => (Option.bind (cond v112 (some
        (true)) ((Option.bind (m_codec_Reader_Rest F j41_n26_0) fun v115 => (Option.bind (m_hindcastref02_Reader_Rest F j41_n31) fun v117 => some
        ((!(v115 == v117))))))) fun v119 => (cond v119 (some (.inr false)) (m_hindcastlaw02_CodecReads_L26 F ks m (IntKind.wrap .i64 ((j : Int) + (1 :
        Int))) j41_n26_0 j41_n31))))) = some (.inl (false, s)) := by
        intro a' e' ha'
        obtain ⟨s, ih⟩ := reads_loop hF hS hk m (j + 1) a' e' ha' (by omega) (by omega)
        refine ⟨s, ?_⟩
        have hE : m_codec_Reader_Err F (rdr S a' e') = some (rref S a' e').E := rfl
        have hR : m_codec_Reader_Rest F (rdr S a' e') = some (rdr S a' e').left.s := rfl
        simp only [Option.bind_some, Bool.not_true, cond_false, hE, bne_self_eq_false, hR, rest_q ha', beq_self_eq_true, hw, ih]
      have c1 : ((1 : Nat) : Int) = 1 := rfl
      have c2 : ((2 : Nat) : Int) = 2 := rfl
      have c4 : ((4 : Nat) : Int) = 4 := rfl
      have c8 : ((8 : Nat) : Int) = 8 := rfl
      have n1 := rnum_of (F := F) (S := S) (a := a) (k := 1) (e := e) (by omega) ha (by omega) (by omega)
      have n2 := rnum_of (F := F) (S := S) (a := a) (k := 2) (e := e) (by omega) ha (by omega) (by omega)
      have n4 := rnum_of (F := F) (S := S) (a := a) (k := 4) (e := e) (by omega) ha (by omega) (by omega)
      have n8 := rnum_of (F := F) (S := S) (a := a) (k := 8) (e := e) (by omega) ha (by omega) (by omega)
      rw [c1] at n1; rw [c2] at n2; rw [c4] at n4; rw [c8] at n8
      have l1 := numv_lt (S := S) (a := a) (k := 1) (e := e) (by omega)
      have l2 := numv_lt (S := S) (a := a) (k := 2) (e := e) (by omega)
      have l4 := numv_lt (S := S) (a := a) (k := 4) (e := e) (by omega)
      have l8 := numv_lt (S := S) (a := a) (k := 8) (e := e) (by omega)
      have w1 : IntKind.wrap .u64 (((numv S a e 1).2.2 : Nat) : Int) = (((numv S a e 1).2.2 : Nat) : Int) := wr_u64 ⟨by omega, by omega⟩
      have w2 : IntKind.wrap .u64 (((numv S a e 2).2.2 : Nat) : Int) = (((numv S a e 2).2.2 : Nat) : Int) := wr_u64 ⟨by omega, by omega⟩
      have w4 : IntKind.wrap .u64 (((numv S a e 4).2.2 : Nat) : Int) = (((numv S a e 4).2.2 : Nat) : Int) := wr_u64 ⟨by omega, by omega⟩
      have wi : IntKind.wrap .u64 (IntKind.wrap .u32 (IntKind.wrap .i32 (((numv S a e 4).2.2 : Nat) : Int))) = (((numv S a e 4).2.2 : Nat) : Int) := by
        rw [wr_i32m, Nat.mod_eq_of_lt (by omega), w4]
      simp only [decide_eq_true (show (j : Int) < (ks.length : Int) by omega), cond_true, getI_nat, hx, Option.bind_some]
      have p1 := get8_of (F := F) (e := e) ha (by omega) (by omega)
      have p2 := get16_of (F := F) (e := e) ha (by omega) (by omega)
      have p4 := get32_of (F := F) (e := e) ha (by omega) (by omega)
      have p8 := get64_of (F := F) (e := e) ha (by omega) (by omega)
      by_cases h0 : Int.tmod x 7 = 0
      · simp only [h0, beq_self_eq_true, cond_true, m_codec_Reader_U8, p1, n1, Option.bind_some, w1]
        exact tail _ _ (numv_le ha)
      · by_cases h2 : Int.tmod x 7 = 1
        · simp only [h2, show ((1 : Int) == 0) = false from rfl, cond_false, beq_self_eq_true, cond_true, m_codec_Reader_U16, p2, n2, Option.bind_some, w2]
          exact tail _ _ (numv_le ha)
        · by_cases h3 : Int.tmod x 7 = 2
          · simp only [h3, show ((2 : Int) == 0) = false from rfl, show ((2 : Int) == 1) = false from rfl, cond_false, beq_self_eq_true, cond_true, m_codec_Reader_U32, p4, n4, Option.bind_some, w4]
            exact tail _ _ (numv_le ha)
          · by_cases h4 : Int.tmod x 7 = 3
            · simp only [h4, show ((3 : Int) == 0) = false from rfl, show ((3 : Int) == 1) = false from rfl, show ((3 : Int) == 2) = false from rfl, cond_false, beq_self_eq_true, cond_true, m_codec_Reader_U64, p8, n8, Option.bind_some]
              exact tail _ _ (numv_le ha)
            · by_cases h5 : Int.tmod x 7 = 4
              · simp only [h5, show ((4 : Int) == 0) = false from rfl, show ((4 : Int) == 1) = false from rfl, show ((4 : Int) == 2) = false from rfl, show ((4 : Int) == 3) = false from rfl, cond_false, beq_self_eq_true, cond_true, m_codec_Reader_I32, p4, n4, Option.bind_some, wi]
                exact tail _ _ (numv_le ha)
              · by_cases h6 : Int.tmod x 7 = 5
                · simp only [h6, show ((5 : Int) == 0) = false from rfl, show ((5 : Int) == 1) = false from rfl, show ((5 : Int) == 2) = false from rfl, show ((5 : Int) == 3) = false from rfl, show ((5 : Int) == 4) = false from rfl, cond_false, beq_self_eq_true, cond_true, var_r (F := F) (e := e) ha (by omega) (by omega), var_q (F := F) (e := e) ha (by omega) (by omega), Option.bind_some]
                  exact tail _ _ (readv_le ha)
                · simp only [beq_eq_false_iff_ne.2 h0, beq_eq_false_iff_ne.2 h2, beq_eq_false_iff_ne.2 h3, beq_eq_false_iff_ne.2 h4, beq_eq_false_iff_ne.2 h5, beq_eq_false_iff_ne.2 h6, cond_false, text_r (F := F) (e := e) ha (by omega) (by omega), text_q (F := F) (e := e) ha (by omega) (by omega), Option.bind_some, beq_self_eq_true]
                  exact tail _ _ (textv_le ha)
    · simp only [decide_eq_false (show ¬ (j : Int) < (ks.length : Int) by omega), cond_false]
      exact ⟨_, rfl⟩

theorem reads_works : m_hindcastlaw02_works 200 = some true := by kernel_rfl

theorem codecReads_pure (S : List UInt8) (ks : List Int) : m_hindcastlaw02_CodecReads 200 S ks = some true := by
  simp only [m_hindcastlaw02_CodecReads, reads_works]
  by_cases h1 : (3000 : Int) < (S.length : Int)
  · simp only [decide_eq_true h1, cond_true, Option.bind_some]
  · by_cases h2 : (60 : Int) < (ks.length : Int)
    · simp only [decide_eq_false h1, decide_eq_true h2, cond_true, cond_false, Option.bind_some]
    · obtain ⟨s, hs⟩ := reads_loop (F := 200) (S := S) (ks := ks) (by omega) (by omega) (by omega) 200 0 0 0 (by omega) (by omega) (by omega)
      have hs' : m_hindcastlaw02_CodecReads_L26 200 ks 200 0 (T_codec_Reader.mk (T_codec_left.mk S 0)) (T_hindcastref02_Reader.mk S 0 0) = some (.inl (false, s)) := hs
      simp only [decide_eq_false h1, decide_eq_false h2, cond_false, Option.bind_some, m_codec_New, hs', orE_l]

theorem codecReads_walk (W : World) (v0 v1 : Value) (R0 : Rdw TT W 8 9 [v0]) (R1 : Rdw TT W 8 26 [v1]) : Calls Try.prog 4 #[v0, v1] W fun e w' => e = .returned (.bool true) ∧ Inv W [] w' [] := by
  obtain ⟨s, hs, _⟩ := rd_str R0 rfl
  obtain rfl : v0 = .string s := List.cons.inj hs |>.1
  obtain ⟨a, n, cap, xs, rfl, hn, hc, _, hr, _⟩ := rd_list (enc := e1 .u8) (ok := fun _ => True) R1 rfl rfl (e1_len _) (fun es _ h => by
    obtain ⟨x, hx, _⟩ := rd_int h rfl
    exact ⟨x, hx, trivial⟩)
  exact (k_hindcastlaw02_CodecReads (p0 := s.data.toList) hn hc (codecReads_pure _ _)).run W hr

set_option maxRecDepth 100000 in
theorem codecReads_lifted (os : Os) (started : os.Started) (H : Type) (enc : TypeId × Value → H) :
    ReturnsInHanded {} Try.checked os 4 .any (Rows.codecReadsSpec.pre6 enc Try.prog Try.f4 Rows.codecReadsRow.domain false) (Rows.codecReadsSpec.post enc Try.prog Try.f4 false true false false) := by
  refine returnsInHanded_of_change_sized (C := Try.checked) (by kernel_rfl) started (by kernel_rfl) Try.func4
    (ChangeSpec.witness6 (enc := enc) (C := Try.checked) false ⟨#[], #[.string ByteArray.empty, .slice none 0 0], []⟩ 8 (by kernel_rfl) (by kernel_rfl) (by kernel_rfl) (by kernel_rfl)) ?_
  intro W base args ds gs before hval0 hW hcnd hsz0 _
  have hval : ∀ (j : Nat) t v, Try.f4.params[j]? = some t → args[j]? = some v → Value.okWide Try.prog W .any base t v := hval0
  have hW' := hW
  obtain ⟨p, q, hA0, hV, rfl, hfz, hnd⟩ := hW
  have hA : DataW.TrodAll enc Try.prog W 0 (fun _ => true) true Try.f4.params.toList args.toList ds p := hA0
  obtain ⟨rfl, rfl⟩ := trodVars_none hV
  have hsz : ∀ x ∈ DataW.weightsEach Try.prog Try.f4.params.toList ds, x ≤ maxB := by
    have h1 : (DataW.weightsEach Try.prog (Try.f4.params.toList ++ []) (ds ++ [])).all (· ≤ reachBytes) = true := hsz0
    simp only [List.append_nil] at h1
    intro x hx; have h2 := List.all_eq_true.1 h1 x hx; simp only [decide_eq_true_eq] at h2; exact h2
  rw [Try.params4] at hA hval hsz
  have hR := rdw_all tt_ok ctt_ok (closed_of tt_closed) (fun _ => rfl) 8 hA hsz
  have hback := fun (W2 : World) (hb : Below W.heap.size W W2) => trodAll_below (by kernel_rfl : laidOutB Try.prog = true) hb (by kernel_rfl) hA
  obtain ⟨v0, vs0, d0, ds0, p0, q0, hargs, rfl, rfl, h0, r0⟩ := trodAll_cons hA
  obtain ⟨v1, vs1, d1, ds1, p1, q1, rfl, rfl, rfl, h1, r1⟩ := trodAll_cons r0
  obtain ⟨rfl, rfl, rfl⟩ := trodAll_nil r1
  obtain rfl : args = #[v0, v1] := by cases args; simp_all
  have R0 := hR 0 9 v0 rfl rfl
  have e0 := val_one tt_ok (t := 9) rfl (by intro h; cases h) rfl (hval 0 9 v0 rfl rfl)
  rw [e0] at R0
  have R1 := hR 1 26 v1 rfl rfl
  have e1 := val_one tt_ok (t := 26) rfl (by intro h; cases h) rfl (hval 1 26 v1 rfl rfl)
  rw [e1] at R1
  clear hval hval0 hsz hsz0 hR hA0
  refine (codecReads_walk W v0 v1 R0 R1).mono fun e W2 ⟨he, hI⟩ => ?_
  subst he
  exact ⟨_, rfl, _, _, _, [], _, [], hW', trodAll_mk1 (shut_bool Try.underlying4 _), hback _ (below_of_inv hI), rfl, (below_of_inv hI).frame _, fun h => by cases h⟩

theorem codecReads_holds : Rows.CodecReadsSaid :=
  OpenClaim.holds_of_wide 4 Try.f4 rfl rfl rfl rfl rfl rfl rfl ⟨rfl, rfl, rfl, rfl, rfl⟩ rfl rfl rfl rfl rfl (by kernel_rfl) Try.func4 (by kernel_rfl)
    (of_decide_eq_true (by kernel_rfl)) (by unfold Func.isWrapper; first | (rw [if_pos (by decide +kernel)]; kernel_rfl) | (rw [if_neg (by decide +kernel)]; exact ⟨rfl, rfl⟩))
    (fun os started H enc _ => codecReads_lifted os started H enc)

end Go.Proofs.Ytpcaiefefanpoaa
