/-
  Chapter 11: the law FoldHolds: a history that drops its oldest frame when it is full holds the last of all frames.
-/
import Derived.Test.YtfkkpnfbpolppaaDoorFoldHist
import Derived.Test.YtfkkpnfbpolppaaDoorCards
import Derived.Test.YtfkkpnfbpolppaaDoorTie
import Derived.Test.YtfkkpnfbpolppaaDoorLaid
import Derived.Test.YtfkkpnfbpolppaaDoorWalk
import Derived.Deep.DeepHandedRow
namespace Go.Proofs.YtfkkpnfbpolppaaDoor
open Go.Proofs.YtfkkpnfbpolppaaDoor.Eng Go.RowKit Go.ChangeShapes Go.WideShapes Go.ChangeAt
set_option linter.unusedSimpArgs false
set_option linter.unusedVariables false
set_option maxHeartbeats 2000000
set_option maxRecDepth 20000

variable {F : Nat}

theorem holds_loop {l : List (Int × Int)} {sz fi mo : Int} (hl : l.length ≤ 600) (hf : 0 ≤ fi ∧ fi ≤ 9223372036854775808) (hm : IntKind.wrap .u64 (IntKind.wrap .i64 ((1 : Int) + (IntKind.wrap .i64 sz))) = mo) :
    ∀ (m i d : Nat) (all : List (Int × Int)) (h : T_fold_History), l.length - i < m → i ≤ l.length → all.length ≤ i → d ≤ all.length → HI h (fi + (d : Int)) mo (all.drop d) →
    ∃ all' d' h', m_hindcastlaw11_FoldHolds_L22 F l sz fi m all (i : Int) h = some (.inl (false, all', h')) ∧ d' ≤ all'.length ∧ all'.length ≤ l.length ∧ HI h' (fi + (d' : Int)) mo (all'.drop d')
  | 0, i, d, all, h, hm', _, _, _, _ => by omega
  | m + 1, i, d, all, h, hm', hi, ha, hd, H => by
    rw [m_hindcastlaw11_FoldHolds_L22.eq_2]
    by_cases h1 : i < l.length
    · have hx : l[i]? = some l[i] := List.getElem?_eq_getElem h1
      have hw : IntKind.wrap .i64 ((i : Int) + 1) = ((i + 1 : Nat) : Int) := by rw [wr_i64 ⟨by omega, by omega⟩]; omega
      have hap : appI all [l[i]] = some (all ++ [l[i]]) := appI_of (by simp; omega)
      rw [decide_eq_true (show (i : Int) < (l.length : Int) by omega), cond_true]
      simp only [getI_nat, hx, Option.bind_some, or_some', hw, hap]
      generalize l[i] = x
      by_cases hb : 63 < x.1 ∨ 63 < x.2
      · have : (decide (63 < x.1) || decide (63 < x.2)) = true := by simpa using hb
        rw [this, cond_true]
        exact holds_loop hl hf hm m (i + 1) d all h (by omega) (by omega) (by omega) hd H
      · have : (decide (63 < x.1) || decide (63 < x.2)) = false := by simp; omega
        rw [this, cond_false]
        have hp : x.1 < 64 ∧ x.2 < 64 := by omega
        have h2 := H.ln
        have h3 := H.m1
        have hdl : (all.drop d).length = all.length - d := by simp
        have key : ∀ (o : T_fold_History) (e : Nat), e ≤ all.length → HI o (fi + (e : Int)) mo (all.drop e ++ [x]) →
            (m_fold_History_Count F o = some (IntKind.wrap .u64 (fi + (IntKind.wrap .u64 ((all ++ [x]).length : Int))))) ∧ (m_fold_History_From F o = some (fi + (e : Int))) ∧
            decide (mo < IntKind.wrap .u64 (IntKind.wrap .u64 (fi + (IntKind.wrap .u64 ((all ++ [x]).length : Int))) - (fi + (e : Int)))) = false ∧
            HI o (fi + (e : Int)) mo ((all ++ [x]).drop e) := by
          intro o e he Ho
          have q1 := count_of (F := F) Ho
          have q2 := Ho.ln
          have q3 : (all.drop e ++ [x]).length = all.length - e + 1 := by simp
          have w1 : IntKind.wrap .u64 ((all ++ [x]).length : Int) = (all.length : Int) + 1 := by rw [wr_u64 ⟨by omega, by simp; omega⟩]; simp
          have w2 : IntKind.wrap .u64 (fi + ((all.length : Int) + 1)) = fi + ((all.length : Int) + 1) := wr_u64 ⟨by omega, by omega⟩
          have w3 : IntKind.wrap .u64 (fi + ((all.length : Int) + 1) - (fi + (e : Int))) = (all.length : Int) + 1 - (e : Int) := by rw [wr_u64 ⟨by omega, by omega⟩]; omega
          refine ⟨?_, from_of Ho, ?_, ?_⟩
          · rw [q1, w1, w2, q3]; congr 1; omega
          · rw [w1, w2, w3]; apply decide_eq_false; omega
          · rw [List.drop_append_of_le_length he]; exact Ho
        by_cases hfull : ((all.drop d).length : Int) = mo
        · have a1 := add_full (F := F) H hp (.inl hfull)
          obtain ⟨h', d1, e1, e2, e3, e4⟩ := drop_of (F := F) H (p := fi + (d : Int) + 1)
          have hd1 : d1 = 1 := by omega
          subst hd1
          have hw2 : IntKind.wrap .u64 (fi + (d : Int) + 1) = fi + (d : Int) + 1 := wr_u64 ⟨by omega, by omega⟩
          rw [List.drop_drop, show fi + (d : Int) + ((1 : Nat) : Int) = fi + ((d + 1 : Nat) : Int) by omega] at e4
          have hdl2 : (all.drop (d + 1)).length = all.length - (d + 1) := by simp
          obtain ⟨o, o1, o2⟩ := add_good (F := F) e4 hp (by omega)
          obtain ⟨k1, k2, k3, k4⟩ := key o (d + 1) (by omega) o2
          have ih := holds_loop hl hf hm m (i + 1) (d + 1) (all ++ [x]) o (by omega) (by omega) (by simp; omega) (by simp; omega) k4
          simp only [a1, Option.bind_some, from_of H, hw2, e1, o1, k1, k2, hm, k3, show ((7 : Int) == 7) = true from rfl, show ((0 : Int) != 0) = false from rfl, cond_true, cond_false, bne_self_eq_false, Bool.false_or]
          exact ih
        · obtain ⟨o, o1, o2⟩ := add_good (F := F) H hp (by omega)
          obtain ⟨k1, k2, k3, k4⟩ := key o d hd o2
          have ih := holds_loop hl hf hm m (i + 1) d (all ++ [x]) o (by omega) (by omega) (by simp; omega) (by simp; omega) k4
          simp only [o1, Option.bind_some, k1, k2, hm, k3, show ((0 : Int) == 7) = false from rfl, cond_true, cond_false, bne_self_eq_false, Bool.false_or]
          exact ih
    · rw [decide_eq_false (show ¬ (i : Int) < (l.length : Int) by omega), cond_false]
      exact ⟨all, d, h, rfl, hd, by omega, H⟩

theorem has_loop {all : List (Int × Int)} {fi mo : Int} {d : Nat} {h : T_fold_History} {b : Bool} (ha : all.length ≤ 600) (hf : 0 ≤ fi ∧ fi ≤ 9223372036854775808) (hd : d ≤ all.length) (H : HI h (fi + (d : Int)) mo (all.drop d)) :
    ∀ (m i : Nat), all.length - i < m → i ≤ all.length → m_hindcastlaw11_FoldHolds_L65 F fi b all h m (i : Int) = some (.inl b)
  | 0, i, hm', _ => by omega
  | m + 1, i, hm', hi => by
    rw [m_hindcastlaw11_FoldHolds_L65.eq_2]
    by_cases h1 : i < all.length
    · have hx : all[i]? = some all[i] := List.getElem?_eq_getElem h1
      have hw : IntKind.wrap .i64 ((i : Int) + 1) = ((i + 1 : Nat) : Int) := by rw [wr_i64 ⟨by omega, by omega⟩]; omega
      have w1 : IntKind.wrap .u64 (i : Int) = (i : Int) := wr_u64 ⟨by omega, by omega⟩
      have w2 : IntKind.wrap .u64 (fi + (i : Int)) = fi + (i : Int) := wr_u64 ⟨by omega, by omega⟩
      have ih := has_loop (b := b) ha hf hd H m (i + 1) (by omega) (by omega)
      rw [decide_eq_true (show (i : Int) < (all.length : Int) by omega), cond_true]
      simp only [getI_nat, hx, Option.bind_some, or_some', hw, w1, w2, at_of H (show 0 ≤ fi + (i : Int) by omega), from_of H]
      by_cases hdi : d ≤ i
      · have hx2 : (all.drop d)[i - d]? = some all[i] := by rw [List.getElem?_drop, show d + (i - d) = i by omega, hx]
        have e := atv_in (fr := fi + (d : Int)) hx2
        rw [show fi + (d : Int) + ((i - d : Nat) : Int) = fi + (i : Int) by omega] at e
        rw [e, decide_eq_true (show fi + (d : Int) ≤ fi + (i : Int) by omega)]
        simp only [bne_self_eq_false, Bool.false_or, cond_true, beq_self_eq_true, Bool.and_self, Bool.not_true, Option.bind_some, cond_false]
        exact ih
      · rw [atv_out (fr := fi + (d : Int)) (p := fi + (i : Int)) (by omega), decide_eq_false (show ¬ fi + (d : Int) ≤ fi + (i : Int) by omega)]
        simp only [bne_self_eq_false, Bool.false_or, cond_false, Option.bind_some]
        exact ih
    · rw [decide_eq_false (show ¬ (i : Int) < (all.length : Int) by omega), cond_false]

theorem holds_pure (hF : 650 ≤ F) (hwk : m_hindcastlaw11_awake F = some true) {fi sz : Int} {l : List (Int × Int)} (hf : 0 ≤ fi ∧ fi ≤ 18446744073709551615) (hs : 0 ≤ sz ∧ sz ≤ 255) : m_hindcastlaw11_FoldHolds F fi l sz = some true := by
  have w0 : IntKind.wrap .i64 ((1 : Int) + (IntKind.wrap .i64 sz)) = 1 + sz := by
    rw [wr_i64 (x := sz) ⟨by omega, by omega⟩, wr_i64 ⟨by omega, by omega⟩]
  have wm : IntKind.wrap .u64 (IntKind.wrap .i64 ((1 : Int) + (IntKind.wrap .i64 sz))) = 1 + sz := by rw [w0, wr_u64 ⟨by omega, by omega⟩]
  obtain ⟨h, h1, H⟩ := new_of (F := F) (fr := min fi 9223372036854775808) (mo := 1 + sz) ⟨by omega, by omega⟩ ⟨by omega, by omega⟩
  unfold m_hindcastlaw11_FoldHolds
  rw [w0, h1]
  simp only [Option.bind_some, poE, hwk, from_of H]
  by_cases h3 : (600 : Int) < (l.length : Int)
  · simp only [decide_eq_true h3, cond_true]
  · rw [decide_eq_false h3, cond_false]
    obtain ⟨all, d, h', e1, e2, e3, e4⟩ := holds_loop (F := F) (l := l) (sz := sz) (fi := min fi 9223372036854775808) (mo := 1 + sz) (by omega) ⟨by omega, by omega⟩ wm F 0 0 [] h (by omega) (by omega) (by simp) (by simp) (by simpa using H)
    have e1' : m_hindcastlaw11_FoldHolds_L22 F l sz (min fi 9223372036854775808) F [] 0 h = _ := e1
    have e5 : m_hindcastlaw11_FoldHolds_L65 F (min fi 9223372036854775808) false all h' F 0 = _ := has_loop (F := F) (b := false) (fi := min fi 9223372036854775808) (by omega) ⟨by omega, by omega⟩ e2 e4 F 0 (by omega) (by omega)
    rw [e1']
    simp only [Option.bind_some, orE_l, e5]

theorem holds_awake : m_hindcastlaw11_awake 700 = some true := by kernel_rfl

theorem pair_rd {w : World} {m : Nat} {cs : List Value} (h : Rdw TT w (m + 2) 39 cs) : ∃ x : Int × Int, cs = e2 .u8 x ∧ (0 ≤ x.1 ∧ x.1 ≤ 255) ∧ (0 ≤ x.2 ∧ x.2 ≤ 255) := by
  obtain ⟨hl, hf⟩ := rd_arr h rfl
  match cs, hl with
  | [a, b], _ =>
    obtain ⟨x, rfl, wx⟩ := rd_cell (hf 0 (by omega)) rfl
    obtain ⟨y, rfl, wy⟩ := rd_cell (hf 1 (by omega)) rfl
    exact ⟨(x, y), rfl, wf_u8 wx, wf_u8 wy⟩

theorem foldHolds_walk (W : World) (hG : Rds W [] [] (some ⟨0, 0, none⟩) (flat (fun _ : Unit => gl_state_playerBounds) [()]) ∧ Rds W [] [] (some ⟨1, 0, none⟩) (flat (fun _ : Unit => gl_state_shotBounds) [()]))
    (v0 v1 v2 : Value) (R0 : Rdw TT W 8 22 [v0]) (R1 : Rdw TT W 8 31 [v1]) (R2 : Rdw TT W 8 5 [v2]) :
    Calls Tryd.prog 5 #[v0, v1, v2] W fun e w' => e = .returned (.bool true) ∧ Inv W [] w' [] := by
  obtain ⟨fi, rfl, w0⟩ := rd_cell R0 rfl
  obtain ⟨a1, n1, cap1, xs, rfl, hn1, hc1, _, hr1, hp⟩ := rd_list (enc := e2 .u8) (ok := fun x : Int × Int => (0 ≤ x.1 ∧ x.1 ≤ 255) ∧ (0 ≤ x.2 ∧ x.2 ≤ 255)) R1 rfl rfl (e2_len _) (fun es _ h => by
    obtain ⟨x, hx, g⟩ := pair_rd h
    exact ⟨x, hx, g⟩)
  obtain ⟨sz, rfl, w2⟩ := rd_cell R2 rfl
  exact (k_hindcastlaw11_FoldHolds hn1 hc1 (holds_pure (F := 700) (by omega) holds_awake (wf_u64 w0) (wf_u8 w2))).run W ⟨hr1, hG⟩

noncomputable def foldHolds_world (os : Os) : World :=
  { World.holding Tryd.prog os ⟨#[], #[], []⟩ with heap := ((World.holding Tryd.prog os ⟨#[], #[], []⟩).heap.modify 0 fun | .cells _ t frozen => .cells gl_state_playerBounds.toArray t frozen | o => o).modify 1 fun | .cells _ t frozen => .cells gl_state_shotBounds.toArray t frozen | o => o }
theorem foldHolds_laid_met (os : Os) : laidMet Tryd.prog Rows.foldHoldsRow.laid ((foldHolds_world os).forCall (fun _ _ => 0) ⟨#[], #[.int .u64 0, .slice none 0 0, .int .u8 0], []⟩).memory := laidMet_of_run' 8 (by kernel_rfl) (by kernel_rfl)
theorem foldHolds_reads (os : Os) {H : Type} (enc : TypeId × Value → H) : ∃ places, DataW.whole enc Tryd.prog ((foldHolds_world os).forCall (fun _ _ => 0) ⟨#[], #[.int .u64 0, .slice none 0 0, .int .u8 0], []⟩).memory Tryd.f5.params.toList Rows.foldHoldsSpec.vars false (#[.int .u64 0, .slice none 0 0, .int .u8 0] : Array Value).toList 8 = some ([.lit (.int .u64 0), .nil, .lit (.int .u8 0)], [], places) := ⟨[], by kernel_rfl⟩
set_option maxRecDepth 100000 in
theorem foldHolds_lifted (os : Os) (started : os.Started) (H : Type) (enc : TypeId × Value → H) (F : Stop.Interp) :
    ReturnsInHanded {} Tryd.checked os 5 .any ((OpenSpec.ofChange Rows.foldHoldsSpec).preRow enc Tryd.prog Tryd.f5 Rows.foldHoldsRow.domain false Rows.foldHoldsRow.laid) (((OpenSpec.ofChange Rows.foldHoldsSpec).at F).post enc Tryd.prog Tryd.f5 false true false false) := by
  obtain ⟨places, hx⟩ := foldHolds_reads os enc
  refine returnsInHanded_of_row (C := Tryd.checked) (s := OpenSpec.ofChange Rows.foldHoldsSpec) (by kernel_rfl) started (by kernel_rfl) Tryd.func5
    (witness_row_at (enc := enc) (C := Tryd.checked) false (foldHolds_world os) #[.int .u64 0, .slice none 0 0, .int .u8 0] rfl (by kernel_rfl) (by kernel_rfl) (by kernel_rfl)
      (OpenSpec.preRow_of_cond 8 hx (by kernel_rfl) (fun k hk => by cases hk) (by kernel_rfl) (foldHolds_laid_met os))) ?_
  intro W base args ds gs before hval0 hW hcnd hk0 hsz0 hL _ _
  have hG := laid_cells hL
  have hval : ∀ (j : Nat) t v, Tryd.f5.params[j]? = some t → args[j]? = some v → Value.okWide Tryd.prog W .any base t v := hval0
  have hW' := hW
  obtain ⟨p, q, hA0, hV, rfl, hfz, hnd⟩ := hW
  have hA : DataW.TrodAll enc Tryd.prog W 0 (fun _ => true) true Tryd.f5.params.toList args.toList ds p := hA0
  obtain ⟨rfl, rfl⟩ := trodVars_none hV
  have hsz : ∀ x ∈ DataW.weightsEach Tryd.prog Tryd.f5.params.toList ds, x ≤ maxB := by
    have h1 : (DataW.weightsEach Tryd.prog (Tryd.f5.params.toList ++ []) (ds ++ [])).all (· ≤ reachBytes) = true := hsz0
    simp only [List.append_nil] at h1
    intro x hx; have h2 := List.all_eq_true.1 h1 x hx; simp only [decide_eq_true_eq] at h2; exact h2
  rw [Tryd.params5] at hA hval hsz
  have hR := rdw_all tt_ok ctt_ok (closed_of tt_closed) (fun _ => rfl) 8 hA hsz
  have hback := fun (W2 : World) (hb : Below W.heap.size W W2) => trodAll_below (by kernel_rfl : laidOutB Tryd.prog = true) hb (by kernel_rfl) hA
  obtain ⟨v0, vs0, d0, ds0, p0, q0, hargs, rfl, rfl, h0, r0⟩ := trodAll_cons hA
  obtain ⟨v1, vs1, d1, ds1, p1, q1, rfl, rfl, rfl, h1, r1⟩ := trodAll_cons r0
  obtain ⟨v2, vs2, d2, ds2, p2, q2, rfl, rfl, rfl, h2, r2⟩ := trodAll_cons r1
  obtain ⟨rfl, rfl, rfl⟩ := trodAll_nil r2
  obtain rfl : args = #[v0, v1, v2] := by cases args; simp_all
  have R0 := hR 0 22 v0 rfl rfl
  have e0 := val_one tt_ok (t := 22) rfl (by intro h; cases h) rfl (hval 0 22 v0 rfl rfl)
  rw [e0] at R0
  have R1 := hR 1 31 v1 rfl rfl
  have e1 := val_one tt_ok (t := 31) rfl (by intro h; cases h) rfl (hval 1 31 v1 rfl rfl)
  rw [e1] at R1
  have R2 := hR 2 5 v2 rfl rfl
  have e2 := val_one tt_ok (t := 5) rfl (by intro h; cases h) rfl (hval 2 5 v2 rfl rfl)
  rw [e2] at R2
  clear hval hval0 hsz hsz0 hR hA0
  refine (foldHolds_walk W hG v0 v1 v2 R0 R1 R2).mono fun e W2 ⟨he, hI⟩ => ?_
  subst he
  exact ⟨_, rfl, _, _, _, [], _, [], hW', trodAll_mk1 (shut_bool Tryd.underlying4 _), hback _ (below_of_inv hI), rfl, (below_of_inv hI).frame _, fun h => by cases h⟩

theorem foldHolds_said : Rows.FoldHoldsSaid :=
  OpenClaim.holds_of_cond 5 Tryd.f5 rfl rfl rfl rfl rfl rfl rfl ⟨rfl, rfl, rfl, rfl, rfl⟩ rfl rfl rfl rfl rfl (by kernel_rfl) Tryd.func5 (by kernel_rfl)
    (of_decide_eq_true (by kernel_rfl)) (by unfold Func.isWrapper; first | (rw [if_pos (by decide +kernel)]; kernel_rfl) | (rw [if_neg (by decide +kernel)]; exact ⟨rfl, rfl⟩))
    (fun os started H enc _ F => by rw [OpenClaim.pre_eq_preRow]; exact foldHolds_lifted os started H enc F)

theorem foldHolds_plain (f : FuncId) (fn : Func) (hf : Tryd.pinned.checked.prog.funcNamed "hindcast/hindcastlaw11.FoldHolds" = some f) (hfn : Tryd.pinned.checked.prog.funcs[f]? = some fn) :
    false = Tryd.pinned.checked.prog.looks [] ∧ ∀ (j : Nat) t, fn.params[j]? = some t → Tryd.pinned.checked.prog.wantsStandIn t = false := by
  obtain rfl : f = 5 := Option.some.inj ((show Tryd.prog.funcNamed "hindcast/hindcastlaw11.FoldHolds" = some 5 by kernel_rfl).symm.trans hf) |>.symm
  obtain rfl : fn = Tryd.f5 := (Option.some.inj (Tryd.func5.symm.trans hfn)).symm
  refine ⟨by kernel_rfl, fun j t ht => ?_⟩
  rw [Tryd.params5] at ht
  have hm : t ∈ [22, 31, 5] := by simpa using Array.mem_of_getElem? ht
  have hall : ([22, 31, 5].all fun u => !Tryd.prog.wantsStandIn u) = true := by kernel_rfl
  exact (show Tryd.prog.wantsStandIn t = false by simpa using List.all_eq_true.1 hall t hm)

theorem foldHolds_holds : Rows.FoldHoldsCardSaid :=
  Claim7.holds_tied_plain_at .later [] _ _ _ _ foldHolds_said (fun _ h => by cases h) (by kernel_rfl) (fun _ h => by cases h) foldHolds_row_tie rfl ⟨rfl, rfl⟩ (by kernel_rfl) rfl foldHolds_plain (by kernel_rfl)

end Go.Proofs.YtfkkpnfbpolppaaDoor
