/-
  Chapter 02: the law CodecWrites: the bytes of any items are the document's.
-/
import Derived.Test.YtpcaiefefanpoaaCodecPure
import Derived.Test.YtpcaiefefanpoaaRows
import Derived.Test.YtpcaiefefanpoaaWalk
namespace Go.Proofs.Ytpcaiefefanpoaa
open Go.Proofs.Ytpcaiefefanpoaa.Eng Go.RowKit Go.ChangeShapes Go.WideShapes Go.ChangeAt
set_option linter.unusedSimpArgs false
set_option linter.unusedVariables false
set_option maxHeartbeats 2000000
set_option maxRecDepth 20000

variable {F : Nat}

structure ItemOk (x : T_hindcastlaw02_Item) : Prop where
  K : 0 ≤ x.Kind ∧ x.Kind ≤ 255
  N : 0 ≤ x.N ∧ x.N ≤ 18446744073709551615

theorem toB_append (a b : List Int) : toB (a ++ b) = toB a ++ toB b := by simp [toB]
theorem toB_fromB (s : List UInt8) : toB (fromB s) = s := by
  simp only [toB, fromB, List.map_map]
  conv => rhs; rw [← List.map_id s]
  apply List.map_congr_left
  intro b _
  simp
theorem toB_length (a : List Int) : (toB a).length = a.length := by simp [toB]
theorem vb_length : ∀ f n, (vb f n).length ≤ f + 1
  | 0, n => by simp [vb]
  | f + 1, n => by
    have := vb_length f (n / 128)
    unfold vb; split <;> simp <;> omega

/-- What an item's bytes are. -/
def itemB (x : T_hindcastlaw02_Item) : List Int :=
  if Int.tmod x.Kind 7 = 0 then iL (le 1 x.N.toNat) else if Int.tmod x.Kind 7 = 1 then iL (le 2 x.N.toNat) else if Int.tmod x.Kind 7 = 2 then iL (le 4 x.N.toNat)
  else if Int.tmod x.Kind 7 = 3 then iL (le 8 x.N.toNat) else if Int.tmod x.Kind 7 = 4 then iL (le 4 x.N.toNat) else if Int.tmod x.Kind 7 = 5 then iL (vb 9 x.N.toNat)
  else iL (vb 9 x.S.length) ++ fromB x.S

theorem itemB_length (x : T_hindcastlaw02_Item) : (itemB x).length ≤ 10 + x.S.length := by
  have h1 := vb_length 9 x.N.toNat
  have h2 := vb_length 9 x.S.length
  unfold itemB
  split
  · simp [iL, le_length]; omega
  · split
    · simp [iL, le_length]; omega
    · split
      · simp [iL, le_length]; omega
      · split
        · simp [iL, le_length]; omega
        · split
          · simp [iL, le_length]; omega
          · split
            · simp [iL]; omega
            · simp [iL, fromB]; omega

theorem put_of {x : T_hindcastlaw02_Item} (hx : ItemOk x) (hs : x.S.length ≤ 300) {w : T_codec_Writer} (hF : 20 ≤ F) (hb : w.b.length ≤ 500000) : m_hindcastlaw02_put F w x = some ⟨w.b ++ itemB x⟩ := by
  obtain ⟨n, hn⟩ := Int.eq_ofNat_of_zero_le hx.N.1
  have hn2 : n < 18446744073709551616 := by have := hx.N.2; omega
  have e1 : le 1 (n % 256) = le 1 n := le_mod 1 n
  have e2 : le 2 (n % 65536) = le 2 n := le_mod 2 n
  have e4 : le 4 (n % 4294967296) = le 4 n := le_mod 4 n
  have hl : IntKind.wrap .u64 (x.S.length : Int) = ((x.S.length : Nat) : Int) := wr_u64 ⟨by omega, by omega⟩
  have ht : appI (w.b ++ iL (vb 9 x.S.length)) (fromB x.S) = some (w.b ++ iL (vb 9 x.S.length) ++ fromB x.S) := by
    have := vb_length 9 x.S.length
    exact appI_of (by simp [iL, fromB]; omega)
  simp only [m_hindcastlaw02_put, m_codec_Writer_Text, hn, wr_u8m, wr_u16m, wr_u32m, hl]
  rw [U8_of (F := F) (n := n % 256) (by omega) (by omega) (by omega), U16_of (F := F) (n := n % 65536) (by omega) (by omega) (by omega), U32_of (F := F) (n := n % 4294967296) (by omega) (by omega) (by omega),
    U64_of (F := F) hn2 (by omega) (by omega), I32_of (F := F) (n := n % 4294967296) (wr_i32m n) (by omega) (by omega) (by omega), Var_of (F := F) hn2 hF (by omega), Var_of (F := F) (n := x.S.length) (by omega) hF (by omega)]
  simp only [e1, e2, e4, Option.bind_some, ht]
  unfold itemB
  simp only [hn, Int.toNat_natCast]
  by_cases h0 : Int.tmod x.Kind 7 = 0
  · simp [h0]
  · by_cases h1 : Int.tmod x.Kind 7 = 1
    · simp [h1]
    · by_cases h2 : Int.tmod x.Kind 7 = 2
      · simp [h2]
      · by_cases h3 : Int.tmod x.Kind 7 = 3
        · simp [h3]
        · by_cases h4 : Int.tmod x.Kind 7 = 4
          · simp [h4]
          · by_cases h5 : Int.tmod x.Kind 7 = 5
            · simp [h5]
            · simp [h0, h1, h2, h3, h4, h5, beq_eq_false_iff_ne.2 h0, beq_eq_false_iff_ne.2 h1, beq_eq_false_iff_ne.2 h2, beq_eq_false_iff_ne.2 h3, beq_eq_false_iff_ne.2 h4, beq_eq_false_iff_ne.2 h5]

theorem bytes_of {x : T_hindcastlaw02_Item} (hx : ItemOk x) (hs : x.S.length ≤ 300) (hF : 20 ≤ F) : m_hindcastlaw02_bytes F x = some (toB (itemB x)) := by
  obtain ⟨n, hn⟩ := Int.eq_ofNat_of_zero_le hx.N.1
  have hn2 : n < 18446744073709551616 := by have := hx.N.2; omega
  have hl : IntKind.wrap .u64 (x.S.length : Int) = ((x.S.length : Nat) : Int) := wr_u64 ⟨by omega, by omega⟩
  have ht : appI (toB (iL (vb 9 x.S.length))) x.S = some (toB (iL (vb 9 x.S.length)) ++ x.S) := by
    have := vb_length 9 x.S.length
    exact appI_of (by simp [iL, toB]; omega)
  have n1 := num_of (F := F) (n := n) (k := 1) (by omega) hn2 (by omega)
  have n2 := num_of (F := F) (n := n) (k := 2) (by omega) hn2 (by omega)
  have n4 := num_of (F := F) (n := n) (k := 4) (by omega) hn2 (by omega)
  have n8 := num_of (F := F) (n := n) (k := 8) (by omega) hn2 (by omega)
  have c1 : ((1 : Nat) : Int) = 1 := rfl
  have c2 : ((2 : Nat) : Int) = 2 := rfl
  have c4 : ((4 : Nat) : Int) = 4 := rfl
  have c8 : ((8 : Nat) : Int) = 8 := rfl
  rw [c1] at n1; rw [c2] at n2; rw [c4] at n4; rw [c8] at n8
  simp only [m_hindcastlaw02_bytes, m_hindcastref02_Text, hn, hl, n1, n2, n4, n8]
  rw [rVar_of (F := F) hn2 hF, rVar_of (F := F) (n := x.S.length) (by omega) hF]
  simp only [Option.bind_some, ht]
  unfold itemB
  simp only [hn, Int.toNat_natCast]
  by_cases h0 : Int.tmod x.Kind 7 = 0
  · simp [h0]
  · by_cases h1 : Int.tmod x.Kind 7 = 1
    · simp [h1]
    · by_cases h2 : Int.tmod x.Kind 7 = 2
      · simp [h2]
      · by_cases h3 : Int.tmod x.Kind 7 = 3
        · simp [h3]
        · by_cases h4 : Int.tmod x.Kind 7 = 4
          · simp [h4]
          · by_cases h5 : Int.tmod x.Kind 7 = 5
            · simp [h5]
            · simp [h0, h1, h2, h3, h4, h5, beq_eq_false_iff_ne.2 h0, beq_eq_false_iff_ne.2 h1, beq_eq_false_iff_ne.2 h2, beq_eq_false_iff_ne.2 h3, beq_eq_false_iff_ne.2 h4, beq_eq_false_iff_ne.2 h5, toB_append, toB_fromB]

/-- Whether there are few items, and what is known if so. -/
theorem few_loop {l : List T_hindcastlaw02_Item} : ∀ (m i : Nat), 80 - i < m → i ≤ 80 → (∀ j x, j < i → l[j]? = some x → x.S.length ≤ 300) →
    ∃ r, m_hindcastlaw02_few_L6 F l m (i : Int) = some r ∧ (r = .inr false ∨ (r = .inl false ∧ ∀ j x, j < 80 → l[j]? = some x → x.S.length ≤ 300))
  | 0, i, hm, _, _ => by omega
  | m + 1, i, hm, hi, hp => by
    rw [m_hindcastlaw02_few_L6.eq_2]
    by_cases h1 : i < l.length
    · by_cases h2 : i < 80
      · obtain ⟨x, hx⟩ : ∃ x, l[i]? = some x := ⟨_, List.getElem?_eq_getElem h1⟩
        have hw : IntKind.wrap .i64 ((i : Int) + 1) = ((i + 1 : Nat) : Int) := by rw [wr_i64 ⟨by omega, by omega⟩]; omega
        simp only [decide_eq_true (show (i : Int) < (l.length : Int) by omega), decide_eq_true (show (i : Int) < 80 by omega), cond_true, Option.bind_some, getI_nat, hx]
        by_cases h3 : (300 : Int) < (x.S.length : Int)
        · simp only [decide_eq_true h3, cond_true]
          exact ⟨_, rfl, .inl rfl⟩
        · simp only [decide_eq_false h3, cond_false, hw]
          refine few_loop m (i + 1) (by omega) (by omega) (fun j y hj hy => ?_)
          rcases Nat.lt_or_ge j i with h4 | h4
          · exact hp j y h4 hy
          · obtain rfl : j = i := by omega
            obtain rfl := Option.some.inj (hx.symm.trans hy)
            omega
      · simp only [decide_eq_true (show (i : Int) < (l.length : Int) by omega), decide_eq_false (show ¬ (i : Int) < 80 by omega), cond_true, cond_false, Option.bind_some]
        exact ⟨_, rfl, .inr ⟨rfl, fun j y hj hy => hp j y (by omega) hy⟩⟩
    · simp only [decide_eq_false (show ¬ (i : Int) < (l.length : Int) by omega), cond_false, Option.bind_some]
      refine ⟨_, rfl, .inr ⟨rfl, fun j y hj hy => hp j y ?_ hy⟩⟩
      have := (List.getElem?_eq_some_iff.1 hy).1
      omega

theorem few_of (l : List T_hindcastlaw02_Item) (hF : 100 ≤ F) : m_hindcastlaw02_few F l = some false ∨ (m_hindcastlaw02_few F l = some true ∧ l.length ≤ 60 ∧ ∀ x ∈ l, x.S.length ≤ 300) := by
  obtain ⟨r, h1, h2⟩ := few_loop (F := F) (l := l) F 0 (by omega) (by omega) (fun j x hj => by omega)
  simp only [m_hindcastlaw02_few]
  rw [show (0 : Int) = ((0 : Nat) : Int) from rfl, h1]
  rcases h2 with rfl | ⟨rfl, h2⟩
  · exact .inl rfl
  · simp only [Option.bind_some, orE_l]
    by_cases h3 : (l.length : Int) ≤ 60
    · refine .inr ⟨by rw [decide_eq_true h3], by omega, fun x hx => ?_⟩
      obtain ⟨j, hj, rfl⟩ := List.mem_iff_getElem.1 hx
      exact h2 j _ (by omega) (List.getElem?_eq_getElem hj)
    · exact .inl (by rw [decide_eq_false h3])

theorem writes_loop {l : List T_hindcastlaw02_Item} (hF : 100 ≤ F) (hl : l.length ≤ 60) (hs : ∀ x ∈ l, x.S.length ≤ 300) (ho : ∀ x ∈ l, ItemOk x) : ∀ (m i : Nat) (b : List Int), l.length - i < m → i ≤ l.length → b.length ≤ 310 * i →
    ∃ b', m_hindcastlaw02_CodecWrites_L18 F l m (toB b) (i : Int) b = some (.inl (false, b'))
  | 0, i, b, hm, _, _ => by omega
  | m + 1, i, b, hm, hi, hb => by
    rw [m_hindcastlaw02_CodecWrites_L18.eq_2]
    by_cases h1 : i < l.length
    · obtain ⟨x, hx⟩ : ∃ x, l[i]? = some x := ⟨_, List.getElem?_eq_getElem h1⟩
      have hm' := List.mem_of_getElem? hx
      have hw : IntKind.wrap .i64 ((i : Int) + 1) = ((i + 1 : Nat) : Int) := by rw [wr_i64 ⟨by omega, by omega⟩]; omega
      have hil := itemB_length x
      have hsx := hs x hm'
      obtain ⟨b', ih⟩ := writes_loop hF hl hs ho m (i + 1) (b ++ itemB x) (by omega) (by omega) (by simp; omega)
      simp only [decide_eq_true (show (i : Int) < (l.length : Int) by omega), cond_true, getI_nat, hx, Option.bind_some]
      rw [put_of (F := F) (w := ⟨b⟩) (ho x hm') hsx (by omega) (by simp; omega), bytes_of (F := F) (ho x hm') hsx (by omega)]
      simp only [Option.bind_some]
      rw [appI_of (by rw [toB_length, toB_length]; omega)]
      simp only [Option.bind_some, m_codec_Writer_Bytes, toB_append, beq_self_eq_true, Bool.not_true, cond_false, hw]
      rw [toB_append] at ih
      exact ⟨b', ih⟩
    · simp only [decide_eq_false (show ¬ (i : Int) < (l.length : Int) by omega), cond_false]
      exact ⟨_, rfl⟩

theorem codec_works : m_hindcastlaw02_works 200 = some true := by kernel_rfl

theorem codecWrites_pure {l : List T_hindcastlaw02_Item} (ho : ∀ x ∈ l, ItemOk x) : m_hindcastlaw02_CodecWrites 200 l = some true := by
  simp only [m_hindcastlaw02_CodecWrites, codec_works]
  rcases few_of (F := 200) l (by omega) with h | ⟨h, hl, hs⟩
  · rw [h]; rfl
  · rw [h]
    obtain ⟨b', hb⟩ := writes_loop (F := 200) (by omega) hl hs ho 200 0 [] (by omega) (by omega) (by simp)
    have hb2 : m_hindcastlaw02_CodecWrites_L18 200 l 200 [] 0 [] = some (.inl (false, b')) := hb
    simp only [Option.bind_some, Bool.not_true, cond_false, hb2, orE_l]

theorem item_rd {w : World} {m : Nat} {cs : List Value} (h : Rdw TT w (m + 2) 32 cs) : ∃ x : T_hindcastlaw02_Item, cs = c_T_hindcastlaw02_Item x ∧ ItemOk x := by
  obtain ⟨hl, hf⟩ := rd_struct h rfl
  match cs, hl with
  | [a, b, c], _ =>
    obtain ⟨x, rfl, wx⟩ := rd_cell (hf (5, 0) (by simp)) rfl
    obtain ⟨y, rfl, wy⟩ := rd_cell (hf (30, 1) (by simp)) rfl
    obtain ⟨s, hs, _⟩ := rd_str (hf (9, 2) (by simp)) rfl
    obtain rfl : c = .string s := List.cons.inj hs |>.1
    exact ⟨⟨x, y, s.data.toList⟩, rfl, ⟨wf_u8 wx, wf_u64 wy⟩⟩

theorem codecWrites_walk (W : World) (v0 : Value) (R0 : Rdw TT W 8 22 [v0]) : Calls Try.prog 3 #[v0] W fun e w' => e = .returned (.bool true) ∧ Inv W [] w' [] := by
  obtain ⟨a, n, cap, xs, rfl, hn, hc, _, hr, hok⟩ := rd_list (enc := c_T_hindcastlaw02_Item) (ok := ItemOk) R0 rfl rfl c_T_hindcastlaw02_Item_len (fun es _ h => item_rd h)
  exact (k_hindcastlaw02_CodecWrites hn hc (codecWrites_pure hok)).run W hr

set_option maxRecDepth 100000 in
theorem codecWrites_lifted (os : Os) (started : os.Started) (H : Type) (enc : TypeId × Value → H) :
    ReturnsInHanded {} Try.checked os 3 .any (Rows.codecWritesSpec.pre6 enc Try.prog Try.f3 Rows.codecWritesRow.domain false) (Rows.codecWritesSpec.post enc Try.prog Try.f3 false true false false) := by
  refine returnsInHanded_of_change_sized (C := Try.checked) (by kernel_rfl) started (by kernel_rfl) Try.func3
    (ChangeSpec.witness6 (enc := enc) (C := Try.checked) false ⟨#[], #[.slice none 0 0], []⟩ 8 (by kernel_rfl) (by kernel_rfl) (by kernel_rfl) (by kernel_rfl)) ?_
  intro W base args ds gs before hval0 hW hcnd hsz0 _
  have hval : ∀ (j : Nat) t v, Try.f3.params[j]? = some t → args[j]? = some v → Value.okWide Try.prog W .any base t v := hval0
  have hW' := hW
  obtain ⟨p, q, hA0, hV, rfl, hfz, hnd⟩ := hW
  have hA : DataW.TrodAll enc Try.prog W 0 (fun _ => true) true Try.f3.params.toList args.toList ds p := hA0
  obtain ⟨rfl, rfl⟩ := trodVars_none hV
  have hsz : ∀ x ∈ DataW.weightsEach Try.prog Try.f3.params.toList ds, x ≤ maxB := by
    have h1 : (DataW.weightsEach Try.prog (Try.f3.params.toList ++ []) (ds ++ [])).all (· ≤ reachBytes) = true := hsz0
    simp only [List.append_nil] at h1
    intro x hx; have h2 := List.all_eq_true.1 h1 x hx; simp only [decide_eq_true_eq] at h2; exact h2
  rw [Try.params3] at hA hval hsz
  have hR := rdw_all tt_ok ctt_ok (closed_of tt_closed) (fun _ => rfl) 8 hA hsz
  have hback := fun (W2 : World) (hb : Below W.heap.size W W2) => trodAll_below (by kernel_rfl : laidOutB Try.prog = true) hb (by kernel_rfl) hA
  obtain ⟨v0, vs0, d0, ds0, p0, q0, hargs, rfl, rfl, h0, r0⟩ := trodAll_cons hA
  obtain ⟨rfl, rfl, rfl⟩ := trodAll_nil r0
  obtain rfl : args = #[v0] := by cases args; simp_all
  have R0 := hR 0 22 v0 rfl rfl
  have e0 := val_one tt_ok (t := 22) rfl (by intro h; cases h) rfl (hval 0 22 v0 rfl rfl)
  rw [e0] at R0
  clear hval hval0 hsz hsz0 hR hA0
  refine (codecWrites_walk W v0 R0).mono fun e W2 ⟨he, hI⟩ => ?_
  subst he
  exact ⟨_, rfl, _, _, _, [], _, [], hW', trodAll_mk1 (shut_bool Try.underlying4 _), hback _ (below_of_inv hI), rfl, (below_of_inv hI).frame _, fun h => by cases h⟩

theorem codecWrites_holds : Rows.CodecWritesSaid :=
  OpenClaim.holds_of_wide 3 Try.f3 rfl rfl rfl rfl rfl rfl rfl ⟨rfl, rfl, rfl, rfl, rfl⟩ rfl rfl rfl rfl rfl (by kernel_rfl) Try.func3 (by kernel_rfl)
    (of_decide_eq_true (by kernel_rfl)) (by unfold Func.isWrapper; first | (rw [if_pos (by decide +kernel)]; kernel_rfl) | (rw [if_neg (by decide +kernel)]; exact ⟨rfl, rfl⟩))
    (fun os started H enc _ => codecWrites_lifted os started H enc)

end Go.Proofs.Ytpcaiefefanpoaa
