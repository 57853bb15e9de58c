/-
  Chapter 11: the law FoldParts: a fold of two parts, the fold of none, and the frames.
-/
import Derived.Test.YtfkkpnfbpolppaaDoorFoldPure
import Derived.Test.YtfkkpnfbpolppaaDoorStateRow
import Derived.Test.YtfkkpnfbpolppaaDoorCards
import Derived.Test.YtfkkpnfbpolppaaDoorTie
import Derived.Test.YtfkkpnfbpolppaaDoorLaid
import Derived.Test.YtfkkpnfbpolppaaDoorWalk
import Derived.Deep.DeepHandedRow
namespace Go.Proofs.YtfkkpnfbpolppaaDoor
open Go.Proofs.YtfkkpnfbpolppaaDoor.Eng Go.RowKit Go.ChangeShapes Go.WideShapes Go.ChangeAt
set_option linter.unusedSimpArgs false
set_option linter.unusedVariables false
set_option maxHeartbeats 2000000
set_option maxRecDepth 20000

variable {F : Nat}

theorem parts_pure (hF : 300 ≤ F) (hwk : m_hindcastlaw11_awake F = some true) {s : T_api_State} {l r : List (Int × Int)} (ho : StOk s) : m_hindcastlaw11_FoldParts F s l r = some true := by
  simp only [m_hindcastlaw11_FoldParts, hwk, or_some, Option.bind_some]
  by_cases h3 : (100 : Int) < (s.Shots.length : Int)
  · simp only [decide_eq_true h3, Bool.true_or, cond_true]
  by_cases h4 : (100 : Int) < (l.length : Int)
  · simp only [decide_eq_true h4, Bool.true_or, Bool.or_true, cond_true]
  by_cases h5 : (100 : Int) < (r.length : Int)
  · simp only [decide_eq_true h5, Bool.or_true, cond_true]
  have e1 : cut3I l 0 (l.length : Int) (l.length : Int) = some l := cut3I_of (i := 0) (j := l.length) rfl rfl rfl (by omega) (by omega) (by simp)
  have e2 : appI l r = some (l ++ r) := appI_of (by omega)
  have hL : (l ++ r).length ≤ 200 := by simp; omega
  have c1 := fold_of (F := F) (l := l ++ r) ho (by omega) (by omega) (by omega) (by omega)
  have c2 := fold_of (F := F) (l := l) ho (by omega) (by omega) (by omega) (by omega)
  obtain ⟨ok, hk⟩ := foldv_ok (l := l) ho (by omega)
  have c3 := fold_of (F := F) (l := r) ok (by omega) (by omega) (by omega) (by omega)
  have c0 : m_fold_Fold F s [] = some s := fold_of (F := F) (l := []) ho (by omega) (by simp) (by omega) (by simp; omega)
  rw [← foldv_append] at c3
  obtain ⟨ok2, hk2⟩ := foldv_ok (l := l ++ r) ho (by omega)
  have c4 := same_of (F := F) (a := foldv s (l ++ r)) (b := foldv s (l ++ r)) (by omega) (by omega)
  rw [stE_refl] at c4
  have c5 := same_of (F := F) (a := s) (b := s) (by omega) (by omega)
  rw [stE_refl] at c5
  have c6 : m_hindcastlaw11_FoldParts_L28 F (l ++ r) F 0 0 = _ := legals_loop (F := F) (l := l ++ r) (by omega) F 0 0 (by omega) (by omega) (by omega)
  have c7 := check_of (F := F) ho (by omega) (by omega) (by omega)
  have c8 : stGood s = false → m_state_Same F (foldv s (l ++ r)) s = some true := fun h => by rw [foldv_bad h]; exact c5
  have c9 : stGood s = true → (foldv s (l ++ r)).Frame = IntKind.wrap .u64 (s.Frame + (legals (l ++ r) : Int)) := foldv_frame ho
  have hle := legals_le (l ++ r)
  rw [Nat.zero_add, List.drop_zero] at c6
  generalize foldv s (l ++ r) = t at *
  simp only [decide_eq_false h3, decide_eq_false h4, decide_eq_false h5, Bool.or_false, cond_false, Option.bind_some, e1, e2, c1, c2, c3, c4, c0, c5, c6, c7, Bool.not_true]
  cases hg : stGood s with
  | false => simp [c8 hg]
  | true =>
    have w1 : IntKind.wrap .u64 ((legals (l ++ r) : Nat) : Int) = ((legals (l ++ r) : Nat) : Int) := wr_u64 ⟨by omega, by omega⟩
    simp [c9 hg, w1]

theorem parts_awake : m_hindcastlaw11_awake 400 = some true := by kernel_rfl

theorem pair_rd {w : World} {m : Nat} {cs : List Value} (h : Rdw TT w (m + 2) 39 cs) : ∃ x : Int × Int, cs = e2 .u8 x ∧ (0 ≤ x.1 ∧ x.1 ≤ 255) ∧ (0 ≤ x.2 ∧ x.2 ≤ 255) := by
  obtain ⟨hl, hf⟩ := rd_arr h rfl
  match cs, hl with
  | [a, b], _ =>
    obtain ⟨x, rfl, wx⟩ := rd_cell (hf 0 (by omega)) rfl
    obtain ⟨y, rfl, wy⟩ := rd_cell (hf 1 (by omega)) rfl
    exact ⟨(x, y), rfl, wf_u8 wx, wf_u8 wy⟩

theorem foldParts_walk (W : World) (hG : Rds W [] [] (some ⟨0, 0, none⟩) (flat (fun _ : Unit => gl_state_playerBounds) [()]) ∧ Rds W [] [] (some ⟨1, 0, none⟩) (flat (fun _ : Unit => gl_state_shotBounds) [()]))
    (c0 : List Value) (v1 v2 : Value) (R0 : Rdw TT W 8 30 c0) (R1 : Rdw TT W 8 31 [v1]) (R2 : Rdw TT W 8 31 [v2]) :
    Calls Tryd.prog 4 #[.agg c0.toArray, v1, v2] W fun e w' => e = .returned (.bool true) ∧ Inv W [] w' [] := by
  obtain ⟨s, a, n, cap, rfl, hn, hc, hr, hok⟩ := state_rd R0
  obtain ⟨a1, n1, cap1, xs, rfl, hn1, hc1, _, hr1, hp⟩ := rd_list (enc := e2 .u8) (ok := fun x : Int × Int => (0 ≤ x.1 ∧ x.1 ≤ 255) ∧ (0 ≤ x.2 ∧ x.2 ≤ 255)) R1 rfl rfl (e2_len _) (fun es _ h => by
    obtain ⟨x, hx, g⟩ := pair_rd h
    exact ⟨x, hx, g⟩)
  obtain ⟨a2, n2, cap2, ys, rfl, hn2, hc2, _, hr2, hq⟩ := rd_list (enc := e2 .u8) (ok := fun x : Int × Int => (0 ≤ x.1 ∧ x.1 ≤ 255) ∧ (0 ≤ x.2 ∧ x.2 ≤ 255)) R2 rfl rfl (e2_len _) (fun es _ h => by
    obtain ⟨x, hx, g⟩ := pair_rd h
    exact ⟨x, hx, g⟩)
  exact (k_hindcastlaw11_FoldParts hn hc hn1 hc1 hn2 hc2 (parts_pure (F := 400) (by omega) parts_awake hok)).run W ⟨hr, hr1, hr2, hG⟩

noncomputable def foldParts_world (os : Os) : World :=
  { World.holding Tryd.prog os ⟨#[], #[], []⟩ with heap := ((World.holding Tryd.prog os ⟨#[], #[], []⟩).heap.modify 0 fun | .cells _ t frozen => .cells gl_state_playerBounds.toArray t frozen | o => o).modify 1 fun | .cells _ t frozen => .cells gl_state_shotBounds.toArray t frozen | o => o }
theorem foldParts_laid_met (os : Os) : laidMet Tryd.prog Rows.foldPartsRow.laid ((foldParts_world os).forCall (fun _ _ => 0) ⟨#[], #[.agg #[(.int .u64 0), (.int .u64 0), (.int .i32 0), (.int .i32 0), (.int .i32 0), (.int .i32 0), (.int .u8 0), (.int .u8 0), (.int .u8 0), (.int .i32 0), (.int .i32 0), (.int .i32 0), (.int .i32 0), (.int .u8 0), (.int .u8 0), (.int .u8 0), (.slice none 0 0), (.int .u16 0), (.int .u16 0)], .slice none 0 0, .slice none 0 0], []⟩).memory := laidMet_of_run' 8 (by kernel_rfl) (by kernel_rfl)
theorem foldParts_reads (os : Os) {H : Type} (enc : TypeId × Value → H) : ∃ places, DataW.whole enc Tryd.prog ((foldParts_world os).forCall (fun _ _ => 0) ⟨#[], #[.agg #[(.int .u64 0), (.int .u64 0), (.int .i32 0), (.int .i32 0), (.int .i32 0), (.int .i32 0), (.int .u8 0), (.int .u8 0), (.int .u8 0), (.int .i32 0), (.int .i32 0), (.int .i32 0), (.int .i32 0), (.int .u8 0), (.int .u8 0), (.int .u8 0), (.slice none 0 0), (.int .u16 0), (.int .u16 0)], .slice none 0 0, .slice none 0 0], []⟩).memory Tryd.f4.params.toList Rows.foldPartsSpec.vars false (#[.agg #[(.int .u64 0), (.int .u64 0), (.int .i32 0), (.int .i32 0), (.int .i32 0), (.int .i32 0), (.int .u8 0), (.int .u8 0), (.int .u8 0), (.int .i32 0), (.int .i32 0), (.int .i32 0), (.int .i32 0), (.int .u8 0), (.int .u8 0), (.int .u8 0), (.slice none 0 0), (.int .u16 0), (.int .u16 0)], .slice none 0 0, .slice none 0 0] : Array Value).toList 8 = some ([.agg [.lit (.int .u64 0), .lit (.int .u64 0), .agg [.agg [.lit (.int .i32 0), .lit (.int .i32 0), .lit (.int .i32 0), .lit (.int .i32 0), .lit (.int .u8 0), .lit (.int .u8 0), .lit (.int .u8 0)], .agg [.lit (.int .i32 0), .lit (.int .i32 0), .lit (.int .i32 0), .lit (.int .i32 0), .lit (.int .u8 0), .lit (.int .u8 0), .lit (.int .u8 0)]], .nil, .agg [.lit (.int .u16 0), .lit (.int .u16 0)]], .nil, .nil], [], places) := ⟨[], by kernel_rfl⟩
set_option maxRecDepth 100000 in
theorem foldParts_lifted (os : Os) (started : os.Started) (H : Type) (enc : TypeId × Value → H) (F : Stop.Interp) :
    ReturnsInHanded {} Tryd.checked os 4 .any ((OpenSpec.ofChange Rows.foldPartsSpec).preRow enc Tryd.prog Tryd.f4 Rows.foldPartsRow.domain false Rows.foldPartsRow.laid) (((OpenSpec.ofChange Rows.foldPartsSpec).at F).post enc Tryd.prog Tryd.f4 false true false false) := by
  obtain ⟨places, hx⟩ := foldParts_reads os enc
  refine returnsInHanded_of_row (C := Tryd.checked) (s := OpenSpec.ofChange Rows.foldPartsSpec) (by kernel_rfl) started (by kernel_rfl) Tryd.func4
    (witness_row_at (enc := enc) (C := Tryd.checked) false (foldParts_world os) #[.agg #[(.int .u64 0), (.int .u64 0), (.int .i32 0), (.int .i32 0), (.int .i32 0), (.int .i32 0), (.int .u8 0), (.int .u8 0), (.int .u8 0), (.int .i32 0), (.int .i32 0), (.int .i32 0), (.int .i32 0), (.int .u8 0), (.int .u8 0), (.int .u8 0), (.slice none 0 0), (.int .u16 0), (.int .u16 0)], .slice none 0 0, .slice none 0 0] rfl (by kernel_rfl) (by kernel_rfl) (by kernel_rfl)
      (OpenSpec.preRow_of_cond 8 hx (by kernel_rfl) (fun k hk => by cases hk) (by kernel_rfl) (foldParts_laid_met os))) ?_
  intro W base args ds gs before hval0 hW hcnd hk0 hsz0 hL _ _
  have hG := laid_cells hL
  have hval : ∀ (j : Nat) t v, Tryd.f4.params[j]? = some t → args[j]? = some v → Value.okWide Tryd.prog W .any base t v := hval0
  have hW' := hW
  obtain ⟨p, q, hA0, hV, rfl, hfz, hnd⟩ := hW
  have hA : DataW.TrodAll enc Tryd.prog W 0 (fun _ => true) true Tryd.f4.params.toList args.toList ds p := hA0
  obtain ⟨rfl, rfl⟩ := trodVars_none hV
  have hsz : ∀ x ∈ DataW.weightsEach Tryd.prog Tryd.f4.params.toList ds, x ≤ maxB := by
    have h1 : (DataW.weightsEach Tryd.prog (Tryd.f4.params.toList ++ []) (ds ++ [])).all (· ≤ reachBytes) = true := hsz0
    simp only [List.append_nil] at h1
    intro x hx; have h2 := List.all_eq_true.1 h1 x hx; simp only [decide_eq_true_eq] at h2; exact h2
  rw [Tryd.params4] at hA hval hsz
  have hR := rdw_all tt_ok ctt_ok (closed_of tt_closed) (fun _ => rfl) 8 hA hsz
  have hback := fun (W2 : World) (hb : Below W.heap.size W W2) => trodAll_below (by kernel_rfl : laidOutB Tryd.prog = true) hb (by kernel_rfl) hA
  obtain ⟨v0, vs0, d0, ds0, p0, q0, hargs, rfl, rfl, h0, r0⟩ := trodAll_cons hA
  obtain ⟨v1, vs1, d1, ds1, p1, q1, rfl, rfl, rfl, h1, r1⟩ := trodAll_cons r0
  obtain ⟨v2, vs2, d2, ds2, p2, q2, rfl, rfl, rfl, h2, r2⟩ := trodAll_cons r1
  obtain ⟨rfl, rfl, rfl⟩ := trodAll_nil r2
  obtain rfl : args = #[v0, v1, v2] := by cases args; simp_all
  have R0 := hR 0 30 v0 rfl rfl
  have e0 := val_agg tt_ok (t := 30) rfl rfl (hval 0 30 v0 rfl rfl)
  generalize v0.cells.toList = c0 at e0 R0
  subst e0
  have R1 := hR 1 31 v1 rfl rfl
  have e1 := val_one tt_ok (t := 31) rfl (by intro h; cases h) rfl (hval 1 31 v1 rfl rfl)
  rw [e1] at R1
  have R2 := hR 2 31 v2 rfl rfl
  have e2 := val_one tt_ok (t := 31) rfl (by intro h; cases h) rfl (hval 2 31 v2 rfl rfl)
  rw [e2] at R2
  clear hval hval0 hsz hsz0 hR hA0
  refine (foldParts_walk W hG c0 v1 v2 R0 R1 R2).mono fun e W2 ⟨he, hI⟩ => ?_
  subst he
  exact ⟨_, rfl, _, _, _, [], _, [], hW', trodAll_mk1 (shut_bool Tryd.underlying4 _), hback _ (below_of_inv hI), rfl, (below_of_inv hI).frame _, fun h => by cases h⟩

theorem foldParts_said : Rows.FoldPartsSaid :=
  OpenClaim.holds_of_cond 4 Tryd.f4 rfl rfl rfl rfl rfl rfl rfl ⟨rfl, rfl, rfl, rfl, rfl⟩ rfl rfl rfl rfl rfl (by kernel_rfl) Tryd.func4 (by kernel_rfl)
    (of_decide_eq_true (by kernel_rfl)) (by unfold Func.isWrapper; first | (rw [if_pos (by decide +kernel)]; kernel_rfl) | (rw [if_neg (by decide +kernel)]; exact ⟨rfl, rfl⟩))
    (fun os started H enc _ F => by rw [OpenClaim.pre_eq_preRow]; exact foldParts_lifted os started H enc F)

theorem foldParts_plain (f : FuncId) (fn : Func) (hf : Tryd.pinned.checked.prog.funcNamed "hindcast/hindcastlaw11.FoldParts" = some f) (hfn : Tryd.pinned.checked.prog.funcs[f]? = some fn) :
    false = Tryd.pinned.checked.prog.looks [] ∧ ∀ (j : Nat) t, fn.params[j]? = some t → Tryd.pinned.checked.prog.wantsStandIn t = false := by
  obtain rfl : f = 4 := Option.some.inj ((show Tryd.prog.funcNamed "hindcast/hindcastlaw11.FoldParts" = some 4 by kernel_rfl).symm.trans hf) |>.symm
  obtain rfl : fn = Tryd.f4 := (Option.some.inj (Tryd.func4.symm.trans hfn)).symm
  refine ⟨by kernel_rfl, fun j t ht => ?_⟩
  rw [Tryd.params4] at ht
  have hm : t ∈ [30, 31, 31] := by simpa using Array.mem_of_getElem? ht
  have hall : ([30, 31, 31].all fun u => !Tryd.prog.wantsStandIn u) = true := by kernel_rfl
  exact (show Tryd.prog.wantsStandIn t = false by simpa using List.all_eq_true.1 hall t hm)

theorem foldParts_holds : Rows.FoldPartsCardSaid :=
  Claim7.holds_tied_plain_at .later [] _ _ _ _ foldParts_said (fun _ h => by cases h) (by kernel_rfl) (fun _ h => by cases h) foldParts_row_tie rfl ⟨rfl, rfl⟩ (by kernel_rfl) rfl foldParts_plain (by kernel_rfl)

end Go.Proofs.YtfkkpnfbpolppaaDoor
