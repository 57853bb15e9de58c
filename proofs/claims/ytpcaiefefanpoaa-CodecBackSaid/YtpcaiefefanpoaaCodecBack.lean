/-
  Chapter 02: the law CodecBack: what is written is read as it was; a beginning of it lacks bytes.
-/
import Derived.Test.YtpcaiefefanpoaaCodecItems
import Derived.Test.YtpcaiefefanpoaaRows
import Derived.Test.YtpcaiefefanpoaaWalk
namespace Go.Proofs.Ytpcaiefefanpoaa
open Go.Proofs.Ytpcaiefefanpoaa.Eng Go.RowKit Go.ChangeShapes Go.WideShapes Go.ChangeAt
set_option linter.unusedSimpArgs false
set_option linter.unusedVariables false
set_option maxHeartbeats 2000000
set_option maxRecDepth 20000

variable {F : Nat}

theorem back_put {l : List T_hindcastlaw02_Item} (hF : 100 ≤ F) (hl : l.length ≤ 60) (hs : ∀ x ∈ l, x.S.length ≤ 300) (ho : ∀ x ∈ l, ItemOk x) : ∀ (m i : Nat) (b : List Int), l.length - i < m → i ≤ l.length → b.length ≤ 310 * i →
    m_hindcastlaw02_CodecBack_L16 F l m (i : Int) b = some (b ++ allB (l.drop i))
  | 0, i, b, hm, _, _ => by omega
  | m + 1, i, b, hm, hi, hb => by
    rw [m_hindcastlaw02_CodecBack_L16.eq_2]
    by_cases h1 : i < l.length
    · have hx : l[i]? = some l[i] := List.getElem?_eq_getElem h1
      have hm' := List.mem_of_getElem? hx
      have hw : IntKind.wrap .i64 ((i : Int) + 1) = ((i + 1 : Nat) : Int) := by rw [wr_i64 ⟨by omega, by omega⟩]; omega
      have hil := itemB_length l[i]
      have hsx := hs _ hm'
      have ih := back_put hF hl hs ho m (i + 1) (b ++ itemB l[i]) (by omega) (by omega) (by simp; omega)
      simp only [decide_eq_true (show (i : Int) < (l.length : Int) by omega), cond_true, getI_nat, hx, Option.bind_some]
      rw [put_of (F := F) (w := ⟨b⟩) (ho _ hm') hsx (by omega) (by simp; omega)]
      simp only [Option.bind_some, hw, ih]
      rw [List.drop_eq_getElem_cons h1, allB_cons, List.append_assoc]
    · simp only [decide_eq_false (show ¬ (i : Int) < (l.length : Int) by omega), cond_false]
      rw [List.drop_of_length_le (by omega)]
      simp [allB]

theorem back_get {l : List T_hindcastlaw02_Item} {S more : List UInt8} (hF : 100 ≤ F) (hS : S.length ≤ 1000000) (hl : l.length ≤ 60) (hs : ∀ x ∈ l, x.S.length ≤ 300) (ho : ∀ x ∈ l, ItemOk x) : ∀ (m i a : Nat), l.length - i < m → i ≤ l.length → a ≤ S.length → S.drop a = toB (allB (l.drop i)) ++ more →
    ∃ a', m_hindcastlaw02_CodecBack_L43 F l m (i : Int) (rdr S a 0) = some (.inl (false, rdr S a' 0)) ∧ S.drop a' = more
  | 0, i, a, hm, _, _, _ => by omega
  | m + 1, i, a, hm, hi, ha, h => by
    rw [m_hindcastlaw02_CodecBack_L43.eq_2]
    by_cases h1 : i < l.length
    · have hx : l[i]? = some l[i] := List.getElem?_eq_getElem h1
      have hm' := List.mem_of_getElem? hx
      have hw : IntKind.wrap .i64 ((i : Int) + 1) = ((i + 1 : Nat) : Int) := by rw [wr_i64 ⟨by omega, by omega⟩]; omega
      rw [List.drop_eq_getElem_cons h1, allB_cons, toB_append, List.append_assoc] at h
      have hg := get_ok (F := F) (ho _ hm') (hs _ hm') (by omega) ha hS h
      have hlen : S.length - a = (itemB l[i]).length + ((allB (l.drop (i + 1))).length + more.length) := by
        have := congrArg List.length h
        simpa [toB_length] using this
      have hd : S.drop (a + (itemB l[i]).length) = toB (allB (l.drop (i + 1))) ++ more := by
        rw [← List.drop_drop, h, List.drop_left' (toB_length _)]
      obtain ⟨a', ih1, ih2⟩ := back_get hF hS hl hs ho m (i + 1) (a + (itemB l[i]).length) (by omega) (by omega) (by omega) hd
      refine ⟨a', ?_, ih2⟩
      simp only [decide_eq_true (show (i : Int) < (l.length : Int) by omega), cond_true, getI_nat, hx, Option.bind_some, hg, Bool.not_true, cond_false, hw, ih1]
    · refine ⟨a, ?_, ?_⟩
      · simp only [decide_eq_false (show ¬ (i : Int) < (l.length : Int) by omega), cond_false]
      · rw [List.drop_of_length_le (show l.length ≤ i by omega)] at h
        exact h

theorem back_err {l : List T_hindcastlaw02_Item} (hF : 100 ≤ F) (hl : l.length ≤ 60) : ∀ (m i : Nat), l.length - i < m → i ≤ l.length →
    m_hindcastlaw02_CodecBack_L90 F l m (i : Int) ⟨⟨[], 10⟩⟩ = some ⟨⟨[], 10⟩⟩
  | 0, i, hm, _ => by omega
  | m + 1, i, hm, hi => by
    rw [m_hindcastlaw02_CodecBack_L90.eq_2]
    by_cases h1 : i < l.length
    · have hx : l[i]? = some l[i] := List.getElem?_eq_getElem h1
      have hw : IntKind.wrap .i64 ((i : Int) + 1) = ((i + 1 : Nat) : Int) := by rw [wr_i64 ⟨by omega, by omega⟩]; omega
      obtain ⟨b, hg⟩ := get_err (F := F) (x := l[i]) (by omega)
      have ih := back_err hF hl m (i + 1) (by omega) (by omega)
      simp only [decide_eq_true (show (i : Int) < (l.length : Int) by omega), cond_true, getI_nat, hx, Option.bind_some, hg, hw, ih]
    · simp only [decide_eq_false (show ¬ (i : Int) < (l.length : Int) by omega), cond_false]

theorem back_torn {l : List T_hindcastlaw02_Item} {S : List UInt8} (hF : 100 ≤ F) (hS : S.length ≤ 1000000) (hl : l.length ≤ 60) (hs : ∀ x ∈ l, x.S.length ≤ 300) (ho : ∀ x ∈ l, ItemOk x) : ∀ (m i a t : Nat), l.length - i < m → i ≤ l.length → a ≤ S.length → S.drop a = (toB (allB (l.drop i))).take t → t < (allB (l.drop i)).length →
    m_hindcastlaw02_CodecBack_L90 F l m (i : Int) (rdr S a 0) = some ⟨⟨[], 10⟩⟩
  | 0, i, a, t, hm, _, _, _, _ => by omega
  | m + 1, i, a, t, hm, hi, ha, h, ht => by
    rw [m_hindcastlaw02_CodecBack_L90.eq_2]
    by_cases h1 : i < l.length
    · have hx : l[i]? = some l[i] := List.getElem?_eq_getElem h1
      have hm' := List.mem_of_getElem? hx
      have hw : IntKind.wrap .i64 ((i : Int) + 1) = ((i + 1 : Nat) : Int) := by rw [wr_i64 ⟨by omega, by omega⟩]; omega
      rw [List.drop_eq_getElem_cons h1, allB_cons] at h ht
      rw [toB_append] at h
      by_cases htl : t < (itemB l[i]).length
      · rw [List.take_append_of_le_length (by rw [toB_length]; omega)] at h
        obtain ⟨b, hg⟩ := get_torn (F := F) (hs _ hm') (by omega) ha hS h htl
        have ih := back_err (F := F) hF hl m (i + 1) (by omega) (by omega)
        simp only [decide_eq_true (show (i : Int) < (l.length : Int) by omega), cond_true, getI_nat, hx, Option.bind_some, hg, hw, ih]
      · rw [List.take_append, toB_length, List.take_of_length_le (by rw [toB_length]; omega)] at h
        have hg := get_ok (F := F) (ho _ hm') (hs _ hm') (by omega) ha hS h
        have hlen : (itemB l[i]).length ≤ S.length - a := by
          have := congrArg List.length h
          rw [List.length_drop, List.length_append, toB_length] at this
          omega
        have hd : S.drop (a + (itemB l[i]).length) = (toB (allB (l.drop (i + 1)))).take (t - (itemB l[i]).length) := by
          rw [← List.drop_drop, h, List.drop_left' (toB_length _)]
        have ih := back_torn hF hS hl hs ho m (i + 1) (a + (itemB l[i]).length) (t - (itemB l[i]).length) (by omega) (by omega) (by omega) hd (by rw [List.length_append] at ht; omega)
        simp only [decide_eq_true (show (i : Int) < (l.length : Int) by omega), cond_true, getI_nat, hx, Option.bind_some, hg, hw, ih]
    · rw [List.drop_of_length_le (by omega)] at ht
      simp [allB] at ht

theorem itemB_pos (x : T_hindcastlaw02_Item) : 0 < (itemB x).length := by
  have hv : ∀ f n, 0 < (vb f n).length := by
    intro f n
    cases f with
    | zero => simp [vb]
    | succ f => unfold vb; split <;> simp
  have h1 := hv 9 x.N.toNat
  have h2 := hv 9 x.S.length
  unfold itemB
  split
  · simp [iL, le_length]
  · split
    · simp [iL, le_length]
    · split
      · simp [iL, le_length]
      · split
        · simp [iL, le_length]
        · split
          · simp [iL, le_length]
          · split
            · simpa [iL] using h1
            · simp only [List.length_append, iL_length]; omega

theorem codecBack_pure {l : List T_hindcastlaw02_Item} {more : List UInt8} {cut : Int} (ho : ∀ x ∈ l, ItemOk x) (hc : 0 ≤ cut ∧ cut ≤ 65535) : m_hindcastlaw02_CodecBack 200 l more cut = some true := by
  simp only [m_hindcastlaw02_CodecBack, codec_works]
  rcases few_of (F := 200) l (by omega) with h | ⟨h, hl, hs⟩
  · rw [h]; rfl
  · rw [h]
    by_cases h1 : (1000 : Int) < (more.length : Int)
    · simp only [Option.bind_some, Bool.not_true, cond_false, decide_eq_true h1, cond_true]
    · have hp := back_put (F := 200) (by omega) hl hs ho 200 0 [] (by omega) (by omega) (by simp)
      have hp' : m_hindcastlaw02_CodecBack_L16 200 l 200 (0 : Int) ([] : List Int) = some (allB l) := by simpa using hp
      have hal := allB_length l hs
      have hap : appI (toB (allB l)) more = some (toB (allB l) ++ more) := appI_of (by rw [toB_length]; omega)
      have hlen : (toB (allB l) ++ more).length ≤ 1000000 := by rw [List.length_append, toB_length]; omega
      obtain ⟨a', hg, hd⟩ := back_get (F := 200) (S := toB (allB l) ++ more) (more := more) (by omega) hlen hl hs ho 200 0 0 (by omega) (by omega) (by omega) (by rw [List.drop_zero, List.drop_zero])
      have hg' : m_hindcastlaw02_CodecBack_L43 200 l 200 (0 : Int) (T_codec_Reader.mk (T_codec_left.mk (toB (allB l) ++ more) (0 : Int))) = some (.inl (false, rdr (toB (allB l) ++ more) a' 0)) := hg
      have hE : m_codec_Reader_Err 200 (rdr (toB (allB l) ++ more) a' 0) = some 0 := rfl
      have hR : m_codec_Reader_Rest 200 (rdr (toB (allB l) ++ more) a' 0) = some more := by
        have : m_codec_Reader_Rest 200 (rdr (toB (allB l) ++ more) a' 0) = some ((toB (allB l) ++ more).drop a') := rfl
        rw [this, hd]
      have n0 : ((0 : Int) != 0) = false := rfl
      simp only [Option.bind_some, Bool.not_true, cond_false, decide_eq_false h1, hp', m_codec_Writer_Bytes, hap, m_codec_New, hg', orE_l, hE, n0, hR, beq_self_eq_true]
      rcases l with _ | ⟨x, l⟩
      · rfl
      · have hpos : 0 < (allB (x :: l)).length := by
          have := itemB_pos x
          rw [allB_cons, List.length_append]; omega
        generalize hA : allB (x :: l) = A at *
        have hz : (((toB A).length : Int) == 0) = false := beq_eq_false_iff_ne.2 (by rw [toB_length]; omega)
        obtain ⟨c, rfl⟩ := Int.eq_ofNat_of_zero_le hc.1
        have hw : IntKind.wrap .i64 (c : Int) = (c : Int) := wr_i64 ⟨by omega, by omega⟩
        have hrem : remI (c : Int) ((toB A).length : Int) = some ((c % A.length : Nat) : Int) := by
          unfold remI
          rw [toB_length, if_neg (by omega)]
          rfl
        have hlt : c % A.length < A.length := Nat.mod_lt _ hpos
        have hcut : cutI (toB A) 0 ((c % A.length : Nat) : Int) = some ((toB A).take (c % A.length)) := cutI_of (i := 0) (j := c % A.length) rfl rfl (by omega) (by rw [toB_length]; omega) (by simp)
        have ht := back_torn (F := 200) (S := (toB A).take (c % A.length)) (l := x :: l) (by omega) (by rw [List.length_take, toB_length]; omega) hl hs ho 200 0 0 (c % A.length) (by omega) (by omega) (by omega) (by rw [List.drop_zero, List.drop_zero, hA]) (by rw [List.drop_zero, hA]; exact hlt)
        have ht' : m_hindcastlaw02_CodecBack_L90 200 (x :: l) 200 (0 : Int) (T_codec_Reader.mk (T_codec_left.mk ((toB A).take (c % A.length)) (0 : Int))) = some ⟨⟨[], 10⟩⟩ := ht
        simp only [hz, cond_false, hw, hrem, Option.bind_some, hcut, ht']
        rfl

theorem item_rd {w : World} {m : Nat} {cs : List Value} (h : Rdw TT w (m + 2) 32 cs) : ∃ x : T_hindcastlaw02_Item, cs = c_T_hindcastlaw02_Item x ∧ ItemOk x := by
  obtain ⟨hl, hf⟩ := rd_struct h rfl
  match cs, hl with
  | [a, b, c], _ =>
    obtain ⟨x, rfl, wx⟩ := rd_cell (hf (5, 0) (by simp)) rfl
    obtain ⟨y, rfl, wy⟩ := rd_cell (hf (30, 1) (by simp)) rfl
    obtain ⟨s, hs, _⟩ := rd_str (hf (9, 2) (by simp)) rfl
    obtain rfl : c = .string s := List.cons.inj hs |>.1
    exact ⟨⟨x, y, s.data.toList⟩, rfl, ⟨wf_u8 wx, wf_u64 wy⟩⟩

theorem codecBack_walk (W : World) (v0 v1 v2 : Value) (R0 : Rdw TT W 8 22 [v0]) (R1 : Rdw TT W 8 9 [v1]) (R2 : Rdw TT W 8 42 [v2]) : Calls Try.prog 6 #[v0, v1, v2] W fun e w' => e = .returned (.bool true) ∧ Inv W [] w' [] := by
  obtain ⟨a, n, cap, xs, rfl, hn, hc, _, hr, hok⟩ := rd_list (enc := c_T_hindcastlaw02_Item) (ok := ItemOk) R0 rfl rfl c_T_hindcastlaw02_Item_len (fun es _ h => item_rd h)
  obtain ⟨s, hs, _⟩ := rd_str R1 rfl
  obtain rfl : v1 = .string s := List.cons.inj hs |>.1
  obtain ⟨z, rfl, wz⟩ := rd_cell R2 rfl
  exact (k_hindcastlaw02_CodecBack (p1 := s.data.toList) hn hc (codecBack_pure hok (wf_u16 wz))).run W hr

set_option maxRecDepth 100000 in
theorem codecBack_lifted (os : Os) (started : os.Started) (H : Type) (enc : TypeId × Value → H) :
    ReturnsInHanded {} Try.checked os 6 .any (Rows.codecBackSpec.pre6 enc Try.prog Try.f6 Rows.codecBackRow.domain false) (Rows.codecBackSpec.post enc Try.prog Try.f6 false true false false) := by
  refine returnsInHanded_of_change_sized (C := Try.checked) (by kernel_rfl) started (by kernel_rfl) Try.func6
    (ChangeSpec.witness6 (enc := enc) (C := Try.checked) false ⟨#[], #[.slice none 0 0, .string ByteArray.empty, .int .u16 0], []⟩ 8 (by kernel_rfl) (by kernel_rfl) (by kernel_rfl) (by kernel_rfl)) ?_
  intro W base args ds gs before hval0 hW hcnd hsz0 _
  have hval : ∀ (j : Nat) t v, Try.f6.params[j]? = some t → args[j]? = some v → Value.okWide Try.prog W .any base t v := hval0
  have hW' := hW
  obtain ⟨p, q, hA0, hV, rfl, hfz, hnd⟩ := hW
  have hA : DataW.TrodAll enc Try.prog W 0 (fun _ => true) true Try.f6.params.toList args.toList ds p := hA0
  obtain ⟨rfl, rfl⟩ := trodVars_none hV
  have hsz : ∀ x ∈ DataW.weightsEach Try.prog Try.f6.params.toList ds, x ≤ maxB := by
    have h1 : (DataW.weightsEach Try.prog (Try.f6.params.toList ++ []) (ds ++ [])).all (· ≤ reachBytes) = true := hsz0
    simp only [List.append_nil] at h1
    intro x hx; have h2 := List.all_eq_true.1 h1 x hx; simp only [decide_eq_true_eq] at h2; exact h2
  rw [Try.params6] at hA hval hsz
  have hR := rdw_all tt_ok ctt_ok (closed_of tt_closed) (fun _ => rfl) 8 hA hsz
  have hback := fun (W2 : World) (hb : Below W.heap.size W W2) => trodAll_below (by kernel_rfl : laidOutB Try.prog = true) hb (by kernel_rfl) hA
  obtain ⟨v0, vs0, d0, ds0, p0, q0, hargs, rfl, rfl, h0, r0⟩ := trodAll_cons hA
  obtain ⟨v1, vs1, d1, ds1, p1, q1, rfl, rfl, rfl, h1, r1⟩ := trodAll_cons r0
  obtain ⟨v2, vs2, d2, ds2, p2, q2, rfl, rfl, rfl, h2, r2⟩ := trodAll_cons r1
  obtain ⟨rfl, rfl, rfl⟩ := trodAll_nil r2
  obtain rfl : args = #[v0, v1, v2] := by cases args; simp_all
  have R0 := hR 0 22 v0 rfl rfl
  have e0 := val_one tt_ok (t := 22) rfl (by intro h; cases h) rfl (hval 0 22 v0 rfl rfl)
  rw [e0] at R0
  have R1 := hR 1 9 v1 rfl rfl
  have e1 := val_one tt_ok (t := 9) rfl (by intro h; cases h) rfl (hval 1 9 v1 rfl rfl)
  rw [e1] at R1
  have R2 := hR 2 42 v2 rfl rfl
  have e2 := val_one tt_ok (t := 42) rfl (by intro h; cases h) rfl (hval 2 42 v2 rfl rfl)
  rw [e2] at R2
  clear hval hval0 hsz hsz0 hR hA0
  refine (codecBack_walk W v0 v1 v2 R0 R1 R2).mono fun e W2 ⟨he, hI⟩ => ?_
  subst he
  exact ⟨_, rfl, _, _, _, [], _, [], hW', trodAll_mk1 (shut_bool Try.underlying4 _), hback _ (below_of_inv hI), rfl, (below_of_inv hI).frame _, fun h => by cases h⟩

theorem codecBack_holds : Rows.CodecBackSaid :=
  OpenClaim.holds_of_wide 6 Try.f6 rfl rfl rfl rfl rfl rfl rfl ⟨rfl, rfl, rfl, rfl, rfl⟩ rfl rfl rfl rfl rfl (by kernel_rfl) Try.func6 (by kernel_rfl)
    (of_decide_eq_true (by kernel_rfl)) (by unfold Func.isWrapper; first | (rw [if_pos (by decide +kernel)]; kernel_rfl) | (rw [if_neg (by decide +kernel)]; exact ⟨rfl, rfl⟩))
    (fun os started H enc _ => codecBack_lifted os started H enc)

end Go.Proofs.Ytpcaiefefanpoaa
