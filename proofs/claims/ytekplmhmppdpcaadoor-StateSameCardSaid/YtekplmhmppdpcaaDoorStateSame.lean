/-
  Chapter 08: the law StateSame: which states are the same is the document's; a copy is, in memory of its own.
-/
import Derived.Test.YtekplmhmppdpcaaDoorStateEq
import Derived.Test.YtekplmhmppdpcaaDoorStateRow
import Derived.Test.YtekplmhmppdpcaaDoorCards
import Derived.Test.YtekplmhmppdpcaaDoorTie
import Derived.Test.YtekplmhmppdpcaaDoorLaid
import Derived.Test.YtekplmhmppdpcaaDoorWalk
import Derived.Deep.DeepHandedRow
namespace Go.Proofs.YtekplmhmppdpcaaDoor
open Go.Proofs.YtekplmhmppdpcaaDoor.Eng Go.RowKit Go.ChangeShapes Go.WideShapes Go.ChangeAt
set_option linter.unusedSimpArgs false
set_option linter.unusedVariables false
set_option maxHeartbeats 2000000
set_option maxRecDepth 20000

variable {F : Nat}

theorem same_spoil : ∀ (m i : Nat) (l : List T_api_Shot), l.length - i < m → i ≤ l.length → l.length ≤ 1000 → ∃ l', m_hindcastlaw08_StateSame_L18 F m (i : Int) l = some l'
  | 0, i, l, hm, _, _ => by omega
  | m + 1, i, l, hm, hi, hl => by
    rw [m_hindcastlaw08_StateSame_L18.eq_2]
    by_cases h1 : i < l.length
    · have hx : l[i]? = some l[i] := List.getElem?_eq_getElem h1
      have hw : IntKind.wrap .i64 ((i : Int) + 1) = ((i + 1 : Nat) : Int) := by rw [wr_i64 ⟨by omega, by omega⟩]; omega
      simp only [decide_eq_true (show (i : Int) < (l.length : Int) by omega), cond_true, getI_nat, hx, Option.bind_some, hw]
      exact same_spoil m (i + 1) _ (by simp [setI]; omega) (by simp [setI]; omega) (by simp [setI]; omega)
    · simp only [decide_eq_false (show ¬ (i : Int) < (l.length : Int) by omega), cond_false]
      exact ⟨_, rfl⟩

theorem sames_pure (hF : 200 ≤ F) (hwk : m_hindcastlaw08_works F = some true) (s t : T_api_State) : m_hindcastlaw08_StateSame F s t = some true := by
  simp only [m_hindcastlaw08_StateSame, hwk]
  by_cases h1 : (100 : Int) < (s.Shots.length : Int)
  · simp only [decide_eq_true h1, cond_true, Option.bind_some]
  by_cases h2 : (100 : Int) < (t.Shots.length : Int)
  · simp only [decide_eq_false h1, decide_eq_true h2, cond_true, cond_false, Option.bind_some]
  have c1 := rcopy_of (F := F) (s := s) (by omega)
  have c2 := copy_of (F := F) (s := s) (by omega)
  obtain ⟨l', hl⟩ := same_spoil (F := F) F 0 s.Shots (by omega) (by omega) (by omega)
  have hl' : m_hindcastlaw08_StateSame_L18 F F 0 s.Shots = some l' := hl
  have e1 := same_of (F := F) (a := s) (b := t) (by omega) (by omega)
  have e2 := rsame_of (F := F) (a := s) (b := t) (by omega) (by omega)
  have e3 := same_of (F := F) (a := s) (b := s) (by omega) (by omega)
  have e4 := rsame_of (F := F) (a := s) (b := s) (by omega) (by omega)
  rw [stE_refl] at e3 e4
  simp only [decide_eq_false h1, decide_eq_false h2, cond_false, c1, c2, hl', e1, e2, e3, e4, Option.bind_some, beq_self_eq_true, cond_true]

theorem sames_works : m_hindcastlaw08_works 300 = some true := by kernel_rfl

theorem stateSame_walk (W : World) (hG : Rds W [] [] (some ⟨0, 0, none⟩) (flat (fun _ : Unit => gl_state_playerBounds) [()]) ∧ Rds W [] [] (some ⟨1, 0, none⟩) (flat (fun _ : Unit => gl_state_shotBounds) [()]))
    (c0 c1 : List Value) (R0 : Rdw TT W 8 30 c0) (R1 : Rdw TT W 8 30 c1) :
    Calls Tryd.prog 8 #[.agg c0.toArray, .agg c1.toArray] W fun e w' => e = .returned (.bool true) ∧ Inv W [] w' [] := by
  obtain ⟨s, a, n, cap, rfl, hn, hc, hr, hok⟩ := state_rd R0
  obtain ⟨t, a2, n2, cap2, rfl, hn2, hc2, hr2, hok2⟩ := state_rd R1
  exact (k_hindcastlaw08_StateSame hn hc hn2 hc2 (sames_pure (F := 300) (by omega) sames_works s t)).run W ⟨hr, hr2, hG⟩

noncomputable def stateSame_world (os : Os) : World :=
  { World.holding Tryd.prog os ⟨#[], #[], []⟩ with heap := ((World.holding Tryd.prog os ⟨#[], #[], []⟩).heap.modify 0 fun | .cells _ t frozen => .cells gl_state_playerBounds.toArray t frozen | o => o).modify 1 fun | .cells _ t frozen => .cells gl_state_shotBounds.toArray t frozen | o => o }
theorem stateSame_laid_met (os : Os) : laidMet Tryd.prog Rows.stateSameRow.laid ((stateSame_world os).forCall (fun _ _ => 0) ⟨#[], #[.agg #[(.int .u64 0), (.int .u64 0), (.int .i32 0), (.int .i32 0), (.int .i32 0), (.int .i32 0), (.int .u8 0), (.int .u8 0), (.int .u8 0), (.int .i32 0), (.int .i32 0), (.int .i32 0), (.int .i32 0), (.int .u8 0), (.int .u8 0), (.int .u8 0), (.slice none 0 0), (.int .u16 0), (.int .u16 0)], .agg #[(.int .u64 0), (.int .u64 0), (.int .i32 0), (.int .i32 0), (.int .i32 0), (.int .i32 0), (.int .u8 0), (.int .u8 0), (.int .u8 0), (.int .i32 0), (.int .i32 0), (.int .i32 0), (.int .i32 0), (.int .u8 0), (.int .u8 0), (.int .u8 0), (.slice none 0 0), (.int .u16 0), (.int .u16 0)]], []⟩).memory := laidMet_of_run' 8 (by kernel_rfl) (by kernel_rfl)
theorem stateSame_reads (os : Os) {H : Type} (enc : TypeId × Value → H) : ∃ places, DataW.whole enc Tryd.prog ((stateSame_world os).forCall (fun _ _ => 0) ⟨#[], #[.agg #[(.int .u64 0), (.int .u64 0), (.int .i32 0), (.int .i32 0), (.int .i32 0), (.int .i32 0), (.int .u8 0), (.int .u8 0), (.int .u8 0), (.int .i32 0), (.int .i32 0), (.int .i32 0), (.int .i32 0), (.int .u8 0), (.int .u8 0), (.int .u8 0), (.slice none 0 0), (.int .u16 0), (.int .u16 0)], .agg #[(.int .u64 0), (.int .u64 0), (.int .i32 0), (.int .i32 0), (.int .i32 0), (.int .i32 0), (.int .u8 0), (.int .u8 0), (.int .u8 0), (.int .i32 0), (.int .i32 0), (.int .i32 0), (.int .i32 0), (.int .u8 0), (.int .u8 0), (.int .u8 0), (.slice none 0 0), (.int .u16 0), (.int .u16 0)]], []⟩).memory Tryd.f8.params.toList Rows.stateSameSpec.vars false (#[.agg #[(.int .u64 0), (.int .u64 0), (.int .i32 0), (.int .i32 0), (.int .i32 0), (.int .i32 0), (.int .u8 0), (.int .u8 0), (.int .u8 0), (.int .i32 0), (.int .i32 0), (.int .i32 0), (.int .i32 0), (.int .u8 0), (.int .u8 0), (.int .u8 0), (.slice none 0 0), (.int .u16 0), (.int .u16 0)], .agg #[(.int .u64 0), (.int .u64 0), (.int .i32 0), (.int .i32 0), (.int .i32 0), (.int .i32 0), (.int .u8 0), (.int .u8 0), (.int .u8 0), (.int .i32 0), (.int .i32 0), (.int .i32 0), (.int .i32 0), (.int .u8 0), (.int .u8 0), (.int .u8 0), (.slice none 0 0), (.int .u16 0), (.int .u16 0)]] : Array Value).toList 8 = some ([.agg [.lit (.int .u64 0), .lit (.int .u64 0), .agg [.agg [.lit (.int .i32 0), .lit (.int .i32 0), .lit (.int .i32 0), .lit (.int .i32 0), .lit (.int .u8 0), .lit (.int .u8 0), .lit (.int .u8 0)], .agg [.lit (.int .i32 0), .lit (.int .i32 0), .lit (.int .i32 0), .lit (.int .i32 0), .lit (.int .u8 0), .lit (.int .u8 0), .lit (.int .u8 0)]], .nil, .agg [.lit (.int .u16 0), .lit (.int .u16 0)]], .agg [.lit (.int .u64 0), .lit (.int .u64 0), .agg [.agg [.lit (.int .i32 0), .lit (.int .i32 0), .lit (.int .i32 0), .lit (.int .i32 0), .lit (.int .u8 0), .lit (.int .u8 0), .lit (.int .u8 0)], .agg [.lit (.int .i32 0), .lit (.int .i32 0), .lit (.int .i32 0), .lit (.int .i32 0), .lit (.int .u8 0), .lit (.int .u8 0), .lit (.int .u8 0)]], .nil, .agg [.lit (.int .u16 0), .lit (.int .u16 0)]]], [], places) := ⟨[], by kernel_rfl⟩
set_option maxRecDepth 100000 in
theorem stateSame_lifted (os : Os) (started : os.Started) (H : Type) (enc : TypeId × Value → H) (F : Stop.Interp) :
    ReturnsInHanded {} Tryd.checked os 8 .any ((OpenSpec.ofChange Rows.stateSameSpec).preRow enc Tryd.prog Tryd.f8 Rows.stateSameRow.domain false Rows.stateSameRow.laid) (((OpenSpec.ofChange Rows.stateSameSpec).at F).post enc Tryd.prog Tryd.f8 false true false false) := by
  obtain ⟨places, hx⟩ := stateSame_reads os enc
  refine returnsInHanded_of_row (C := Tryd.checked) (s := OpenSpec.ofChange Rows.stateSameSpec) (by kernel_rfl) started (by kernel_rfl) Tryd.func8
    (witness_row_at (enc := enc) (C := Tryd.checked) false (stateSame_world os) #[.agg #[(.int .u64 0), (.int .u64 0), (.int .i32 0), (.int .i32 0), (.int .i32 0), (.int .i32 0), (.int .u8 0), (.int .u8 0), (.int .u8 0), (.int .i32 0), (.int .i32 0), (.int .i32 0), (.int .i32 0), (.int .u8 0), (.int .u8 0), (.int .u8 0), (.slice none 0 0), (.int .u16 0), (.int .u16 0)], .agg #[(.int .u64 0), (.int .u64 0), (.int .i32 0), (.int .i32 0), (.int .i32 0), (.int .i32 0), (.int .u8 0), (.int .u8 0), (.int .u8 0), (.int .i32 0), (.int .i32 0), (.int .i32 0), (.int .i32 0), (.int .u8 0), (.int .u8 0), (.int .u8 0), (.slice none 0 0), (.int .u16 0), (.int .u16 0)]] rfl (by kernel_rfl) (by kernel_rfl) (by kernel_rfl)
      (OpenSpec.preRow_of_cond 8 hx (by kernel_rfl) (fun k hk => by cases hk) (by kernel_rfl) (stateSame_laid_met os))) ?_
  intro W base args ds gs before hval0 hW hcnd hk0 hsz0 hL _ _
  have hG := laid_cells hL
  have hval : ∀ (j : Nat) t v, Tryd.f8.params[j]? = some t → args[j]? = some v → Value.okWide Tryd.prog W .any base t v := hval0
  have hW' := hW
  obtain ⟨p, q, hA0, hV, rfl, hfz, hnd⟩ := hW
  have hA : DataW.TrodAll enc Tryd.prog W 0 (fun _ => true) true Tryd.f8.params.toList args.toList ds p := hA0
  obtain ⟨rfl, rfl⟩ := trodVars_none hV
  have hsz : ∀ x ∈ DataW.weightsEach Tryd.prog Tryd.f8.params.toList ds, x ≤ maxB := by
    have h1 : (DataW.weightsEach Tryd.prog (Tryd.f8.params.toList ++ []) (ds ++ [])).all (· ≤ reachBytes) = true := hsz0
    simp only [List.append_nil] at h1
    intro x hx; have h2 := List.all_eq_true.1 h1 x hx; simp only [decide_eq_true_eq] at h2; exact h2
  rw [Tryd.params8] at hA hval hsz
  have hR := rdw_all tt_ok ctt_ok (closed_of tt_closed) (fun _ => rfl) 8 hA hsz
  have hback := fun (W2 : World) (hb : Below W.heap.size W W2) => trodAll_below (by kernel_rfl : laidOutB Tryd.prog = true) hb (by kernel_rfl) hA
  obtain ⟨v0, vs0, d0, ds0, p0, q0, hargs, rfl, rfl, h0, r0⟩ := trodAll_cons hA
  obtain ⟨v1, vs1, d1, ds1, p1, q1, rfl, rfl, rfl, h1, r1⟩ := trodAll_cons r0
  obtain ⟨rfl, rfl, rfl⟩ := trodAll_nil r1
  obtain rfl : args = #[v0, v1] := by cases args; simp_all
  have R0 := hR 0 30 v0 rfl rfl
  have e0 := val_agg tt_ok (t := 30) rfl rfl (hval 0 30 v0 rfl rfl)
  generalize v0.cells.toList = c0 at e0 R0
  subst e0
  have R1 := hR 1 30 v1 rfl rfl
  have e1 := val_agg tt_ok (t := 30) rfl rfl (hval 1 30 v1 rfl rfl)
  generalize v1.cells.toList = c1 at e1 R1
  subst e1
  clear hval hval0 hsz hsz0 hR hA0
  refine (stateSame_walk W hG c0 c1 R0 R1).mono fun e W2 ⟨he, hI⟩ => ?_
  subst he
  exact ⟨_, rfl, _, _, _, [], _, [], hW', trodAll_mk1 (shut_bool Tryd.underlying4 _), hback _ (below_of_inv hI), rfl, (below_of_inv hI).frame _, fun h => by cases h⟩

theorem stateSame_said : Rows.StateSameSaid :=
  OpenClaim.holds_of_cond 8 Tryd.f8 rfl rfl rfl rfl rfl rfl rfl ⟨rfl, rfl, rfl, rfl, rfl⟩ rfl rfl rfl rfl rfl (by kernel_rfl) Tryd.func8 (by kernel_rfl)
    (of_decide_eq_true (by kernel_rfl)) (by unfold Func.isWrapper; first | (rw [if_pos (by decide +kernel)]; kernel_rfl) | (rw [if_neg (by decide +kernel)]; exact ⟨rfl, rfl⟩))
    (fun os started H enc _ F => by rw [OpenClaim.pre_eq_preRow]; exact stateSame_lifted os started H enc F)

theorem stateSame_plain (f : FuncId) (fn : Func) (hf : Tryd.pinned.checked.prog.funcNamed "hindcast/hindcastlaw08.StateSame" = some f) (hfn : Tryd.pinned.checked.prog.funcs[f]? = some fn) :
    false = Tryd.pinned.checked.prog.looks [] ∧ ∀ (j : Nat) t, fn.params[j]? = some t → Tryd.pinned.checked.prog.wantsStandIn t = false := by
  obtain rfl : f = 8 := Option.some.inj ((show Tryd.prog.funcNamed "hindcast/hindcastlaw08.StateSame" = some 8 by kernel_rfl).symm.trans hf) |>.symm
  obtain rfl : fn = Tryd.f8 := (Option.some.inj (Tryd.func8.symm.trans hfn)).symm
  refine ⟨by kernel_rfl, fun j t ht => ?_⟩
  rw [Tryd.params8] at ht
  have hm : t ∈ [30, 30] := by simpa using Array.mem_of_getElem? ht
  have hall : ([30, 30].all fun u => !Tryd.prog.wantsStandIn u) = true := by kernel_rfl
  exact (show Tryd.prog.wantsStandIn t = false by simpa using List.all_eq_true.1 hall t hm)

theorem stateSame_holds : Rows.StateSameCardSaid :=
  Claim7.holds_tied_plain_at .later [] _ _ _ _ stateSame_said (fun _ h => by cases h) (by kernel_rfl) (fun _ h => by cases h) stateSame_row_tie rfl ⟨rfl, rfl⟩ (by kernel_rfl) rfl stateSame_plain (by kernel_rfl)

end Go.Proofs.YtekplmhmppdpcaaDoor
