/-
  Chapter 10: the law DigestMixes: a pair's mix, and a list's chain, are the document's.
-/
import Derived.Test.YtgnddjlbhfoioaaDoorDigestPure
import Derived.Test.YtgnddjlbhfoioaaDoorCards
import Derived.Test.YtgnddjlbhfoioaaDoorTie
import Derived.Test.YtgnddjlbhfoioaaDoorLaid
import Derived.Test.YtgnddjlbhfoioaaDoorWalk
import Derived.Deep.DeepHandedRow
namespace Go.Proofs.YtgnddjlbhfoioaaDoor
open Go.Proofs.YtgnddjlbhfoioaaDoor.Eng Go.RowKit Go.ChangeShapes Go.WideShapes Go.ChangeAt
set_option linter.unusedSimpArgs false
set_option linter.unusedVariables false
set_option maxHeartbeats 2000000
set_option maxRecDepth 20000

theorem mixes_a {F : Nat} (hwk : m_hindcastlaw10_works F = some true) (h : Int) (p : Int × Int) (l : List (Int × Int)) (h1 : (1000 : Int) < (l.length : Int)) : m_hindcastlaw10_DigestMixes F h p l = some true := by
  unfold m_hindcastlaw10_DigestMixes
  rw [hwk, decide_eq_true h1, cond_true]
  rfl
theorem mixes_b {F : Nat} (hwk : m_hindcastlaw10_works F = some true) (h : Int) (p : Int × Int) (l : List (Int × Int)) (h1 : ¬ (1000 : Int) < (l.length : Int)) (q c : Int) (m1 : m_digest_Mix F h p = some q) (m2 : m_hindcastref10_Mix F h p = some q) (c1 : m_digest_Chain F l = some c) (c2 : m_hindcastref10_Chain F l = some c) : m_hindcastlaw10_DigestMixes F h p l = some true := by
  unfold m_hindcastlaw10_DigestMixes
  rw [hwk, decide_eq_false h1, cond_false, m1, m2, c1, c2]
  simp only [Option.bind_some, beq_self_eq_true, cond_true]

theorem mixes_pure {F : Nat} (hF : 1100 ≤ F) (hwk : m_hindcastlaw10_works F = some true) (h : Int) (p : Int × Int) (l : List (Int × Int)) : m_hindcastlaw10_DigestMixes F h p l = some true := by
  by_cases h1 : (1000 : Int) < (l.length : Int)
  · exact mixes_a hwk h p l h1
  · exact mixes_b hwk h p l h1 _ _ (mix_of h p (by omega)) (rmix_of h p) (chain_of (by omega) (by omega) (by omega)) (rchain_of (by omega) (by omega))

theorem digest_works : m_hindcastlaw10_works 1100 = some true := by kernel_rfl

theorem pair_rd {w : World} {m : Nat} {cs : List Value} (h : Rdw TT w (m + 2) 37 cs) : ∃ x : Int × Int, cs = e2 .u8 x := by
  obtain ⟨hl, hf⟩ := rd_arr h rfl
  match cs, hl with
  | [a, b], _ =>
    obtain ⟨x, rfl, wx⟩ := rd_cell (hf 0 (by omega)) rfl
    obtain ⟨y, rfl, wy⟩ := rd_cell (hf 1 (by omega)) rfl
    exact ⟨(x, y), rfl⟩

theorem digestMixes_walk (W : World) (hG : Rds W [] [] (some ⟨0, 0, none⟩) (flat (fun _ : Unit => gl_state_playerBounds) [()]) ∧ Rds W [] [] (some ⟨1, 0, none⟩) (flat (fun _ : Unit => gl_state_shotBounds) [()]))
    (v0 : Value) (c1 : List Value) (v2 : Value) (R0 : Rdw TT W 8 22 [v0]) (R1 : Rdw TT W 8 37 c1) (R2 : Rdw TT W 8 38 [v2]) :
    Calls Tryd.prog 4 #[v0, .agg c1.toArray, v2] W fun e w' => e = .returned (.bool true) ∧ Inv W [] w' [] := by
  obtain ⟨h, rfl, wf⟩ := rd_cell R0 rfl
  obtain ⟨p, rfl⟩ := pair_rd R1
  obtain ⟨a, n, cap, xs, rfl, hn, hc, _, hr, _⟩ := rd_list (enc := e2 .u8) (ok := fun _ => True) R2 rfl rfl (e2_len _) (fun es _ h => by
    obtain ⟨x, hx⟩ := pair_rd h
    exact ⟨x, hx, trivial⟩)
  exact (k_hindcastlaw10_DigestMixes hn hc (mixes_pure (F := 1100) (by omega) digest_works _ _ _)).run W ⟨hr, hG⟩

noncomputable def digestMixes_world (os : Os) : World :=
  { World.holding Tryd.prog os ⟨#[], #[], []⟩ with heap := ((World.holding Tryd.prog os ⟨#[], #[], []⟩).heap.modify 0 fun | .cells _ t frozen => .cells gl_state_playerBounds.toArray t frozen | o => o).modify 1 fun | .cells _ t frozen => .cells gl_state_shotBounds.toArray t frozen | o => o }
theorem digestMixes_laid_met (os : Os) : laidMet Tryd.prog Rows.digestMixesRow.laid ((digestMixes_world os).forCall (fun _ _ => 0) ⟨#[], #[.int .u64 0, .agg #[(.int .u8 0), (.int .u8 0)], .slice none 0 0], []⟩).memory := laidMet_of_run' 8 (by kernel_rfl) (by kernel_rfl)
theorem digestMixes_reads (os : Os) {H : Type} (enc : TypeId × Value → H) : ∃ places, DataW.whole enc Tryd.prog ((digestMixes_world os).forCall (fun _ _ => 0) ⟨#[], #[.int .u64 0, .agg #[(.int .u8 0), (.int .u8 0)], .slice none 0 0], []⟩).memory Tryd.f4.params.toList Rows.digestMixesSpec.vars false (#[.int .u64 0, .agg #[(.int .u8 0), (.int .u8 0)], .slice none 0 0] : Array Value).toList 8 = some ([.lit (.int .u64 0), .agg [.lit (.int .u8 0), .lit (.int .u8 0)], .nil], [], places) := ⟨[], by kernel_rfl⟩
set_option maxRecDepth 100000 in
theorem digestMixes_lifted (os : Os) (started : os.Started) (H : Type) (enc : TypeId × Value → H) (F : Stop.Interp) :
    ReturnsInHanded {} Tryd.checked os 4 .any ((OpenSpec.ofChange Rows.digestMixesSpec).preRow enc Tryd.prog Tryd.f4 Rows.digestMixesRow.domain false Rows.digestMixesRow.laid) (((OpenSpec.ofChange Rows.digestMixesSpec).at F).post enc Tryd.prog Tryd.f4 false true false false) := by
  obtain ⟨places, hx⟩ := digestMixes_reads os enc
  refine returnsInHanded_of_row (C := Tryd.checked) (s := OpenSpec.ofChange Rows.digestMixesSpec) (by kernel_rfl) started (by kernel_rfl) Tryd.func4
    (witness_row_at (enc := enc) (C := Tryd.checked) false (digestMixes_world os) #[.int .u64 0, .agg #[(.int .u8 0), (.int .u8 0)], .slice none 0 0] rfl (by kernel_rfl) (by kernel_rfl) (by kernel_rfl)
      (OpenSpec.preRow_of_cond 8 hx (by kernel_rfl) (fun k hk => by cases hk) (by kernel_rfl) (digestMixes_laid_met os))) ?_
  intro W base args ds gs before hval0 hW hcnd hk0 hsz0 hL _ _
  have hG := laid_cells hL
  have hval : ∀ (j : Nat) t v, Tryd.f4.params[j]? = some t → args[j]? = some v → Value.okWide Tryd.prog W .any base t v := hval0
  have hW' := hW
  obtain ⟨p, q, hA0, hV, rfl, hfz, hnd⟩ := hW
  have hA : DataW.TrodAll enc Tryd.prog W 0 (fun _ => true) true Tryd.f4.params.toList args.toList ds p := hA0
  obtain ⟨rfl, rfl⟩ := trodVars_none hV
  have hsz : ∀ x ∈ DataW.weightsEach Tryd.prog Tryd.f4.params.toList ds, x ≤ maxB := by
    have h1 : (DataW.weightsEach Tryd.prog (Tryd.f4.params.toList ++ []) (ds ++ [])).all (· ≤ reachBytes) = true := hsz0
    simp only [List.append_nil] at h1
    intro x hx; have h2 := List.all_eq_true.1 h1 x hx; simp only [decide_eq_true_eq] at h2; exact h2
  rw [Tryd.params4] at hA hval hsz
  have hR := rdw_all tt_ok ctt_ok (closed_of tt_closed) (fun _ => rfl) 8 hA hsz
  have hback := fun (W2 : World) (hb : Below W.heap.size W W2) => trodAll_below (by kernel_rfl : laidOutB Tryd.prog = true) hb (by kernel_rfl) hA
  obtain ⟨v0, vs0, d0, ds0, p0, q0, hargs, rfl, rfl, h0, r0⟩ := trodAll_cons hA
  obtain ⟨v1, vs1, d1, ds1, p1, q1, rfl, rfl, rfl, h1, r1⟩ := trodAll_cons r0
  obtain ⟨v2, vs2, d2, ds2, p2, q2, rfl, rfl, rfl, h2, r2⟩ := trodAll_cons r1
  obtain ⟨rfl, rfl, rfl⟩ := trodAll_nil r2
  obtain rfl : args = #[v0, v1, v2] := by cases args; simp_all
  have R0 := hR 0 22 v0 rfl rfl
  have e0 := val_one tt_ok (t := 22) rfl (by intro h; cases h) rfl (hval 0 22 v0 rfl rfl)
  rw [e0] at R0
  have R1 := hR 1 37 v1 rfl rfl
  have e1 := val_agg tt_ok (t := 37) rfl rfl (hval 1 37 v1 rfl rfl)
  generalize v1.cells.toList = c1 at e1 R1
  subst e1
  have R2 := hR 2 38 v2 rfl rfl
  have e2 := val_one tt_ok (t := 38) rfl (by intro h; cases h) rfl (hval 2 38 v2 rfl rfl)
  rw [e2] at R2
  clear hval hval0 hsz hsz0 hR hA0
  refine (digestMixes_walk W hG v0 c1 v2 R0 R1 R2).mono fun e W2 ⟨he, hI⟩ => ?_
  subst he
  exact ⟨_, rfl, _, _, _, [], _, [], hW', trodAll_mk1 (shut_bool Tryd.underlying4 _), hback _ (below_of_inv hI), rfl, (below_of_inv hI).frame _, fun h => by cases h⟩

theorem digestMixes_said : Rows.DigestMixesSaid :=
  OpenClaim.holds_of_cond 4 Tryd.f4 rfl rfl rfl rfl rfl rfl rfl ⟨rfl, rfl, rfl, rfl, rfl⟩ rfl rfl rfl rfl rfl (by kernel_rfl) Tryd.func4 (by kernel_rfl)
    (of_decide_eq_true (by kernel_rfl)) (by unfold Func.isWrapper; first | (rw [if_pos (by decide +kernel)]; kernel_rfl) | (rw [if_neg (by decide +kernel)]; exact ⟨rfl, rfl⟩))
    (fun os started H enc _ F => by rw [OpenClaim.pre_eq_preRow]; exact digestMixes_lifted os started H enc F)

theorem digestMixes_plain (f : FuncId) (fn : Func) (hf : Tryd.pinned.checked.prog.funcNamed "hindcast/hindcastlaw10.DigestMixes" = some f) (hfn : Tryd.pinned.checked.prog.funcs[f]? = some fn) :
    false = Tryd.pinned.checked.prog.looks [] ∧ ∀ (j : Nat) t, fn.params[j]? = some t → Tryd.pinned.checked.prog.wantsStandIn t = false := by
  obtain rfl : f = 4 := Option.some.inj ((show Tryd.prog.funcNamed "hindcast/hindcastlaw10.DigestMixes" = some 4 by kernel_rfl).symm.trans hf) |>.symm
  obtain rfl : fn = Tryd.f4 := (Option.some.inj (Tryd.func4.symm.trans hfn)).symm
  refine ⟨by kernel_rfl, fun j t ht => ?_⟩
  rw [Tryd.params4] at ht
  have hm : t ∈ [22, 37, 38] := by simpa using Array.mem_of_getElem? ht
  have hall : ([22, 37, 38].all fun u => !Tryd.prog.wantsStandIn u) = true := by kernel_rfl
  exact (show Tryd.prog.wantsStandIn t = false by simpa using List.all_eq_true.1 hall t hm)

theorem digestMixes_holds : Rows.DigestMixesCardSaid :=
  Claim7.holds_tied_plain_at .later [] _ _ _ _ digestMixes_said (fun _ h => by cases h) (by kernel_rfl) (fun _ h => by cases h) digestMixes_row_tie rfl ⟨rfl, rfl⟩ (by kernel_rfl) rfl digestMixes_plain (by kernel_rfl)

end Go.Proofs.YtgnddjlbhfoioaaDoor
