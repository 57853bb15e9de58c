/-
  Chapter 06: the law InputBack: a list's bytes are read as the list; with less room it is too long; a beginning lacks bytes.
-/
import Derived.Test.YtolmilcdhphnhaaInputPure
import Derived.Test.YtolmilcdhphnhaaRows
import Derived.Test.YtolmilcdhphnhaaWalk
namespace Go.Proofs.Ytolmilcdhphnhaa
open Go.Proofs.Ytolmilcdhphnhaa.Eng Go.RowKit Go.ChangeShapes Go.WideShapes Go.ChangeAt
set_option linter.unusedSimpArgs false
set_option linter.unusedVariables false
set_option maxHeartbeats 2000000
set_option maxRecDepth 20000

variable {F : Nat}
theorem legal_loop {l : List Int} (hl : l.length ≤ 100000) : ∀ (m i : Nat) (out : List Int), l.length - i < m → i ≤ l.length → out.length = i →
    m_hindcastlaw06_legal_L8 F l m out (i : Int) = some (out ++ (l.drop i).map fun x => Int.tmod x 64)
  | 0, i, out, hm, _, _ => by omega
  | m + 1, i, out, hm, hi, ho => by
    rw [m_hindcastlaw06_legal_L8.eq_2]
    by_cases h1 : i < l.length
    · have hy : l[i]? = some l[i] := List.getElem?_eq_getElem h1
      have hw : IntKind.wrap .i64 ((i : Int) + 1) = ((i + 1 : Nat) : Int) := by rw [wr_i64 ⟨by omega, by omega⟩]; omega
      have ih := legal_loop hl m (i + 1) (out ++ [Int.tmod l[i] 64]) (by omega) (by omega) (by simp; omega)
      simp only [decide_eq_true (show (i : Int) < (l.length : Int) by omega), cond_true, getI_nat, hy, Option.bind_some]
      rw [appI_of (by simp; omega)]
      simp only [Option.bind_some, hw, ih]
      rw [List.drop_eq_getElem_cons h1, List.map_cons, List.append_assoc]
      rfl
    · simp only [decide_eq_false (show ¬ (i : Int) < (l.length : Int) by omega), cond_false]
      rw [List.drop_of_length_le (by omega)]
      simp

theorem back_pure (hF : 5000 ≤ F) (hwk : m_hindcastlaw06_works F = some true) (l : List Int) (room cut : Int) (h0 : ∀ x ∈ l, 0 ≤ x ∧ x ≤ 255) (hr : 0 ≤ room ∧ room ≤ 65535) (hc : 0 ≤ cut ∧ cut ≤ 65535) : m_hindcastlaw06_InputBack F l room cut = some true := by
  simp only [m_hindcastlaw06_InputBack, hwk]
  by_cases h1 : (1500 : Int) < (l.length : Int)
  · simp only [decide_eq_true h1, cond_true, Option.bind_some]
  · have hl := legal_loop (F := F) (l := l) (by omega) F 0 [] (by omega) (by omega) rfl
    have hl' : m_hindcastlaw06_legal_L8 F l F [] 0 = some ([] ++ (l.drop 0).map fun x => Int.tmod x 64) := hl
    rw [List.drop_zero, List.nil_append] at hl'
    have hlg : ∀ x ∈ l.map (fun x => Int.tmod x 64), 0 ≤ x ∧ x < 64 := by
      intro x hx
      obtain ⟨y, hy, rfl⟩ := List.mem_map.1 hx
      have := (h0 y hy).1
      exact ⟨Int.tmod_nonneg _ this, Int.tmod_lt_of_pos _ (by omega)⟩
    have hlen : (l.map fun x => Int.tmod x 64).length = l.length := by simp
    generalize l.map (fun x => Int.tmod x 64) = q at *
    have hp := pack_of (F := F) (l := q) (fun x hx => (hlg x hx).1) (by omega) (by omega) (by omega)
    have hall : q.all leg = true := List.all_eq_true.2 fun x hx => decide_eq_true (hlg x hx).2
    rw [hall, if_pos rfl] at hp
    have hpos : 0 < (packB q).length := by
      have := vb_pos 9 (rle q).length
      simp [packB, iL_length]; omega
    have hpl : (packB q).length ≤ 11 * q.length + 10 := by
      have h1 := encRs_length (rle q)
      have h2 := rle_length q
      have h3 := vb_length 9 (rle q).length
      simp [packB, iL_length]; omega
    have hne : (toB (packB q) == ([] : List UInt8)) = false := by
      rw [beq_eq_false_iff_ne]
      intro h
      have := congrArg List.length h
      rw [toB_length, List.length_nil] at this
      omega
    have u1 := unp_of (F := F) (S := toB (packB q)) (p1 := (q.length : Int)) (by rw [toB_length]; omega) (by omega)
    have r1 : roomOf (q.length : Int) = q.length := by unfold roomOf; omega
    rw [r1, unpv_back (by omega) (by omega) hlg, if_pos (Nat.le_refl _)] at u1
    have hwr : IntKind.wrap .i64 room = room := wr_i64 ⟨by omega, by omega⟩
    have hwc : IntKind.wrap .i64 cut = cut := wr_i64 ⟨by omega, by omega⟩
    have u2 := unp_of (F := F) (S := toB (packB q)) (p1 := room) (by rw [toB_length]; omega) (by omega)
    rw [unpv_back (room_le _) (by omega) hlg] at u2
    have hs := same_of (F := F) (l := q) (by omega) (by omega)
    obtain ⟨c, rfl⟩ := Int.eq_ofNat_of_zero_le hc.1
    have hrem : remI (c : Int) ((toB (packB q)).length : Int) = some ((c % (packB q).length : Nat) : Int) := by
      unfold remI
      rw [toB_length, if_neg (by omega)]
      rfl
    have hlt : c % (packB q).length < (packB q).length := Nat.mod_lt _ hpos
    have hcut : cutI (toB (packB q)) 0 ((c % (packB q).length : Nat) : Int) = some ((toB (packB q)).take (c % (packB q).length)) := cutI_of (i := 0) (j := c % (packB q).length) rfl rfl (by omega) (by rw [toB_length]; omega) (by simp)
    have u3 := unp_of (F := F) (S := (toB (packB q)).take (c % (packB q).length)) (p1 := 4096) (by rw [List.length_take, toB_length]; omega) (by omega)
    have r3 : roomOf 4096 = 4096 := by decide
    rw [r3, unpv_torn (by omega) hlg (by rw [toB_length]; exact hlt)] at u3
    have hleg : m_hindcastlaw06_legal F l = some q := by simp only [m_hindcastlaw06_legal, hl', Option.bind_some]
    simp only [decide_eq_false h1, cond_false, hleg, hp, hne, u1, Option.bind_some, show ((0 : Int) != 0) = false from rfl, hs, Bool.not_true, hwr, u2, hwc, hrem, hcut, u3, beq_self_eq_true, List.length_nil]
    by_cases hge : (q.length : Int) ≤ room
    · rw [if_pos (show q.length ≤ roomOf room by unfold roomOf; omega)]
      simp only [decide_eq_true hge, cond_true, show ((0 : Int) != 0) = false from rfl, cond_false, hs, Option.bind_some, Bool.not_true]
      rfl
    · rw [if_neg (show ¬ q.length ≤ roomOf room by unfold roomOf; omega)]
      simp only [decide_eq_false hge, cond_false, show ((3 : Int) != 3) = false from rfl, Option.bind_some]
      rfl

theorem back_works : m_hindcastlaw06_works 5000 = some true := by kernel_rfl

theorem inputBack_walk (W : World) (v0 v1 v2 : Value) (R0 : Rdw TT W 8 23 [v0]) (R1 : Rdw TT W 8 31 [v1]) (R2 : Rdw TT W 8 31 [v2]) : Calls Try.prog 4 #[v0, v1, v2] W fun e w' => e = .returned (.bool true) ∧ Inv W [] w' [] := by
  obtain ⟨a, n, cap, xs, rfl, hn, hc, _, hr, hok⟩ := rd_list (enc := e1 .u8) (ok := fun x : Int => 0 ≤ x ∧ x ≤ 255) R0 rfl rfl (e1_len _) (fun es _ h => by
    obtain ⟨x, hx, wx⟩ := rd_int h rfl
    exact ⟨x, hx, wf_u8 wx⟩)
  obtain ⟨y, rfl, wy⟩ := rd_cell R1 rfl
  obtain ⟨z, rfl, wz⟩ := rd_cell R2 rfl
  exact (k_hindcastlaw06_InputBack hn hc (back_pure (F := 5000) (by omega) back_works _ _ _ hok (wf_u16 wy) (wf_u16 wz))).run W hr

set_option maxRecDepth 100000 in
theorem inputBack_lifted (os : Os) (started : os.Started) (H : Type) (enc : TypeId × Value → H) :
    ReturnsInHanded {} Try.checked os 4 .any (Rows.inputBackSpec.pre6 enc Try.prog Try.f4 Rows.inputBackRow.domain false) (Rows.inputBackSpec.post enc Try.prog Try.f4 false true false false) := by
  refine returnsInHanded_of_change_sized (C := Try.checked) (by kernel_rfl) started (by kernel_rfl) Try.func4
    (ChangeSpec.witness6 (enc := enc) (C := Try.checked) false ⟨#[], #[.slice none 0 0, .int .u16 0, .int .u16 0], []⟩ 8 (by kernel_rfl) (by kernel_rfl) (by kernel_rfl) (by kernel_rfl)) ?_
  intro W base args ds gs before hval0 hW hcnd hsz0 _
  have hval : ∀ (j : Nat) t v, Try.f4.params[j]? = some t → args[j]? = some v → Value.okWide Try.prog W .any base t v := hval0
  have hW' := hW
  obtain ⟨p, q, hA0, hV, rfl, hfz, hnd⟩ := hW
  have hA : DataW.TrodAll enc Try.prog W 0 (fun _ => true) true Try.f4.params.toList args.toList ds p := hA0
  obtain ⟨rfl, rfl⟩ := trodVars_none hV
  have hsz : ∀ x ∈ DataW.weightsEach Try.prog Try.f4.params.toList ds, x ≤ maxB := by
    have h1 : (DataW.weightsEach Try.prog (Try.f4.params.toList ++ []) (ds ++ [])).all (· ≤ reachBytes) = true := hsz0
    simp only [List.append_nil] at h1
    intro x hx; have h2 := List.all_eq_true.1 h1 x hx; simp only [decide_eq_true_eq] at h2; exact h2
  rw [Try.params4] at hA hval hsz
  have hR := rdw_all tt_ok ctt_ok (closed_of tt_closed) (fun _ => rfl) 8 hA hsz
  have hback := fun (W2 : World) (hb : Below W.heap.size W W2) => trodAll_below (by kernel_rfl : laidOutB Try.prog = true) hb (by kernel_rfl) hA
  obtain ⟨v0, vs0, d0, ds0, p0, q0, hargs, rfl, rfl, h0, r0⟩ := trodAll_cons hA
  obtain ⟨v1, vs1, d1, ds1, p1, q1, rfl, rfl, rfl, h1, r1⟩ := trodAll_cons r0
  obtain ⟨v2, vs2, d2, ds2, p2, q2, rfl, rfl, rfl, h2, r2⟩ := trodAll_cons r1
  obtain ⟨rfl, rfl, rfl⟩ := trodAll_nil r2
  obtain rfl : args = #[v0, v1, v2] := by cases args; simp_all
  have R0 := hR 0 23 v0 rfl rfl
  have e0 := val_one tt_ok (t := 23) rfl (by intro h; cases h) rfl (hval 0 23 v0 rfl rfl)
  rw [e0] at R0
  have R1 := hR 1 31 v1 rfl rfl
  have e1 := val_one tt_ok (t := 31) rfl (by intro h; cases h) rfl (hval 1 31 v1 rfl rfl)
  rw [e1] at R1
  have R2 := hR 2 31 v2 rfl rfl
  have e2 := val_one tt_ok (t := 31) rfl (by intro h; cases h) rfl (hval 2 31 v2 rfl rfl)
  rw [e2] at R2
  clear hval hval0 hsz hsz0 hR hA0
  refine (inputBack_walk W v0 v1 v2 R0 R1 R2).mono fun e W2 ⟨he, hI⟩ => ?_
  subst he
  exact ⟨_, rfl, _, _, _, [], _, [], hW', trodAll_mk1 (shut_bool Try.underlying4 _), hback _ (below_of_inv hI), rfl, (below_of_inv hI).frame _, fun h => by cases h⟩

theorem inputBack_holds : Rows.InputBackSaid :=
  OpenClaim.holds_of_wide 4 Try.f4 rfl rfl rfl rfl rfl rfl rfl ⟨rfl, rfl, rfl, rfl, rfl⟩ rfl rfl rfl rfl rfl (by kernel_rfl) Try.func4 (by kernel_rfl)
    (of_decide_eq_true (by kernel_rfl)) (by unfold Func.isWrapper; first | (rw [if_pos (by decide +kernel)]; kernel_rfl) | (rw [if_neg (by decide +kernel)]; exact ⟨rfl, rfl⟩))
    (fun os started H enc _ => inputBack_lifted os started H enc)

end Go.Proofs.Ytolmilcdhphnhaa
