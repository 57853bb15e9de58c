/-
  Chapter 10: the law DigestJoins: the digests of any text, and of any state, are the document's.
-/
import Derived.Test.YtgnddjlbhfoioaaDoorDigestPure
import Derived.Test.YtgnddjlbhfoioaaDoorStateRow
import Derived.Test.YtgnddjlbhfoioaaDoorCards
import Derived.Test.YtgnddjlbhfoioaaDoorTie
import Derived.Test.YtgnddjlbhfoioaaDoorLaid
import Derived.Test.YtgnddjlbhfoioaaDoorWalk
import Derived.Deep.DeepHandedRow
namespace Go.Proofs.YtgnddjlbhfoioaaDoor
open Go.Proofs.YtgnddjlbhfoioaaDoor.Eng Go.RowKit Go.ChangeShapes Go.WideShapes Go.ChangeAt
set_option linter.unusedSimpArgs false
set_option linter.unusedVariables false
set_option maxHeartbeats 2000000
set_option maxRecDepth 20000

variable {F : Nat}

theorem rjoin_loop {s : List UInt8} (hs : s.length ≤ 1000000) : ∀ (m i : Nat) (h : Int), s.length - i < m → i ≤ s.length →
    m_hindcastref10_Join_L6 F s m h (i : Int) = some ((s.drop i).foldl (fun h (c : UInt8) => stp h (c.toNat : Int)) h)
  | 0, i, h, hm, _ => by omega
  | m + 1, i, h, hm, hi => by
    rw [m_hindcastref10_Join_L6.eq_2]
    by_cases h1 : i < s.length
    · have hx : s[i]? = some s[i] := List.getElem?_eq_getElem h1
      have hw : IntKind.wrap .i64 ((i : Int) + 1) = ((i + 1 : Nat) : Int) := by rw [wr_i64 ⟨by omega, by omega⟩]; omega
      have ih := rjoin_loop hs m (i + 1) (stp h (s[i].toNat : Int)) (by omega) (by omega)
      simp only [decide_eq_true (show (i : Int) < (s.length : Int) by omega), cond_true, getI_nat, hx, Option.bind_some, hw, m_hindcastref10_step]
      rw [List.drop_eq_getElem_cons h1, List.foldl_cons]
      exact ih
    · simp only [decide_eq_false (show ¬ (i : Int) < (s.length : Int) by omega), cond_false]
      rw [List.drop_of_length_le (by omega)]
      rfl

theorem rjoin_of {s : List UInt8} {h : Int} (hl : s.length < F) (hs : s.length ≤ 1000000) : m_hindcastref10_Join F h s = some (joinv h s) := by
  have := rjoin_loop (F := F) (s := s) hs F 0 h (by omega) (by omega)
  have h' : m_hindcastref10_Join_L6 F s F h 0 = _ := this
  simp only [m_hindcastref10_Join, h', Option.bind_some, List.drop_zero]
  rfl

theorem joins_a (hwk : m_hindcastlaw10_works F = some true) (h : Int) (S : List UInt8) (s : T_api_State) (h1 : (3000 : Int) < (S.length : Int) ∨ (100 : Int) < (s.Shots.length : Int)) : m_hindcastlaw10_DigestJoins F h S s = some true := by
  unfold m_hindcastlaw10_DigestJoins
  rw [hwk, or_some]
  have : (decide ((3000 : Int) < (S.length : Int)) || decide ((100 : Int) < (s.Shots.length : Int))) = true := by
    rcases h1 with h1 | h1
    · rw [decide_eq_true h1]; rfl
    · rw [decide_eq_true h1, Bool.or_true]
  rw [this]
  rfl
theorem joins_b (hwk : m_hindcastlaw10_works F = some true) (h : Int) (S : List UInt8) (s : T_api_State) (h1 : ¬ (3000 : Int) < (S.length : Int)) (h2 : ¬ (100 : Int) < (s.Shots.length : Int)) (q c : Int)
    (m1 : m_digest_Join F h S = some q) (m2 : m_hindcastref10_Join F h S = some q) (c1 : m_digest_Of F s = some c) (c2 : m_hindcastref10_Of F s = some c) : m_hindcastlaw10_DigestJoins F h S s = some true := by
  unfold m_hindcastlaw10_DigestJoins
  rw [hwk, or_some, decide_eq_false h1, decide_eq_false h2, m1, m2, c1, c2]
  simp only [Bool.or_self, Option.bind_some, cond_false, beq_self_eq_true, cond_true]
theorem of_both {s : T_api_State} {b : List UInt8} {c : Int} (p1 : m_state_Put F s = some b) (p2 : m_hindcastref08_Put F s = some b) (j1 : m_digest_Join F 14695981039346656037 b = some c) (j2 : m_hindcastref10_Join F 14695981039346656037 b = some c) :
    m_digest_Of F s = some c ∧ m_hindcastref10_Of F s = some c := by
  constructor
  · unfold m_digest_Of
    rw [p1, Option.bind_some, j1, Option.bind_some]
  · unfold m_hindcastref10_Of
    rw [p2, Option.bind_some, j2, Option.bind_some]

theorem joins_pure (hF : 4000 ≤ F) (hwk : m_hindcastlaw10_works F = some true) (h : Int) (S : List UInt8) {s : T_api_State} (ho : StOk s) : m_hindcastlaw10_DigestJoins F h S s = some true := by
  by_cases h1 : (3000 : Int) < (S.length : Int)
  · exact joins_a hwk h S s (.inl h1)
  by_cases h2 : (100 : Int) < (s.Shots.length : Int)
  · exact joins_a hwk h S s (.inr h2)
  have p1 := put_of (F := F) ho (by omega) (by omega) (by omega)
  have p2 := rput_of (F := F) ho (by omega) (by omega) (by omega)
  have hl : (if stGood s then toB (stB s) else []).length ≤ 3000 := by
    split
    · have h1 := vb_length 9 s.Shots.length
      simp [stB, toB_length, iL_length, le_length, plB_length, shsB_length]; omega
    · simp
  obtain ⟨c1, c2⟩ := of_both p1 p2 (join_of (by omega) (by omega)) (rjoin_of (by omega) (by omega))
  exact joins_b hwk h S s h1 h2 _ _ (join_of (by omega) (by omega)) (rjoin_of (by omega) (by omega)) c1 c2

theorem joins_works : m_hindcastlaw10_works 4000 = some true := by kernel_rfl

theorem digestJoins_walk (W : World) (hG : Rds W [] [] (some ⟨0, 0, none⟩) (flat (fun _ : Unit => gl_state_playerBounds) [()]) ∧ Rds W [] [] (some ⟨1, 0, none⟩) (flat (fun _ : Unit => gl_state_shotBounds) [()]))
    (v0 v1 : Value) (c2 : List Value) (R0 : Rdw TT W 8 22 [v0]) (R1 : Rdw TT W 8 9 [v1]) (R2 : Rdw TT W 8 30 c2) :
    Calls Tryd.prog 3 #[v0, v1, .agg c2.toArray] W fun e w' => e = .returned (.bool true) ∧ Inv W [] w' [] := by
  obtain ⟨h, rfl, wf⟩ := rd_cell R0 rfl
  obtain ⟨x, hx, _⟩ := rd_str R1 rfl
  obtain rfl : v1 = .string x := List.cons.inj hx |>.1
  obtain ⟨s, a, n, cap, rfl, hn, hc, hr, hok⟩ := state_rd R2
  exact (k_hindcastlaw10_DigestJoins (p1 := x.data.toList) hn hc (joins_pure (F := 4000) (by omega) joins_works h _ hok)).run W ⟨hr, hG⟩

noncomputable def digestJoins_world (os : Os) : World :=
  { World.holding Tryd.prog os ⟨#[], #[], []⟩ with heap := ((World.holding Tryd.prog os ⟨#[], #[], []⟩).heap.modify 0 fun | .cells _ t frozen => .cells gl_state_playerBounds.toArray t frozen | o => o).modify 1 fun | .cells _ t frozen => .cells gl_state_shotBounds.toArray t frozen | o => o }
theorem digestJoins_laid_met (os : Os) : laidMet Tryd.prog Rows.digestJoinsRow.laid ((digestJoins_world os).forCall (fun _ _ => 0) ⟨#[], #[.int .u64 0, .string ByteArray.empty, .agg #[(.int .u64 0), (.int .u64 0), (.int .i32 0), (.int .i32 0), (.int .i32 0), (.int .i32 0), (.int .u8 0), (.int .u8 0), (.int .u8 0), (.int .i32 0), (.int .i32 0), (.int .i32 0), (.int .i32 0), (.int .u8 0), (.int .u8 0), (.int .u8 0), (.slice none 0 0), (.int .u16 0), (.int .u16 0)]], []⟩).memory := laidMet_of_run' 8 (by kernel_rfl) (by kernel_rfl)
theorem digestJoins_reads (os : Os) {H : Type} (enc : TypeId × Value → H) : ∃ places, DataW.whole enc Tryd.prog ((digestJoins_world os).forCall (fun _ _ => 0) ⟨#[], #[.int .u64 0, .string ByteArray.empty, .agg #[(.int .u64 0), (.int .u64 0), (.int .i32 0), (.int .i32 0), (.int .i32 0), (.int .i32 0), (.int .u8 0), (.int .u8 0), (.int .u8 0), (.int .i32 0), (.int .i32 0), (.int .i32 0), (.int .i32 0), (.int .u8 0), (.int .u8 0), (.int .u8 0), (.slice none 0 0), (.int .u16 0), (.int .u16 0)]], []⟩).memory Tryd.f3.params.toList Rows.digestJoinsSpec.vars false (#[.int .u64 0, .string ByteArray.empty, .agg #[(.int .u64 0), (.int .u64 0), (.int .i32 0), (.int .i32 0), (.int .i32 0), (.int .i32 0), (.int .u8 0), (.int .u8 0), (.int .u8 0), (.int .i32 0), (.int .i32 0), (.int .i32 0), (.int .i32 0), (.int .u8 0), (.int .u8 0), (.int .u8 0), (.slice none 0 0), (.int .u16 0), (.int .u16 0)]] : Array Value).toList 8 = some ([.lit (.int .u64 0), .lit (.string []), .agg [.lit (.int .u64 0), .lit (.int .u64 0), .agg [.agg [.lit (.int .i32 0), .lit (.int .i32 0), .lit (.int .i32 0), .lit (.int .i32 0), .lit (.int .u8 0), .lit (.int .u8 0), .lit (.int .u8 0)], .agg [.lit (.int .i32 0), .lit (.int .i32 0), .lit (.int .i32 0), .lit (.int .i32 0), .lit (.int .u8 0), .lit (.int .u8 0), .lit (.int .u8 0)]], .nil, .agg [.lit (.int .u16 0), .lit (.int .u16 0)]]], [], places) := ⟨[], by kernel_rfl⟩
set_option maxRecDepth 100000 in
theorem digestJoins_lifted (os : Os) (started : os.Started) (H : Type) (enc : TypeId × Value → H) (F : Stop.Interp) :
    ReturnsInHanded {} Tryd.checked os 3 .any ((OpenSpec.ofChange Rows.digestJoinsSpec).preRow enc Tryd.prog Tryd.f3 Rows.digestJoinsRow.domain false Rows.digestJoinsRow.laid) (((OpenSpec.ofChange Rows.digestJoinsSpec).at F).post enc Tryd.prog Tryd.f3 false true false false) := by
  obtain ⟨places, hx⟩ := digestJoins_reads os enc
  refine returnsInHanded_of_row (C := Tryd.checked) (s := OpenSpec.ofChange Rows.digestJoinsSpec) (by kernel_rfl) started (by kernel_rfl) Tryd.func3
    (witness_row_at (enc := enc) (C := Tryd.checked) false (digestJoins_world os) #[.int .u64 0, .string ByteArray.empty, .agg #[(.int .u64 0), (.int .u64 0), (.int .i32 0), (.int .i32 0), (.int .i32 0), (.int .i32 0), (.int .u8 0), (.int .u8 0), (.int .u8 0), (.int .i32 0), (.int .i32 0), (.int .i32 0), (.int .i32 0), (.int .u8 0), (.int .u8 0), (.int .u8 0), (.slice none 0 0), (.int .u16 0), (.int .u16 0)]] rfl (by kernel_rfl) (by kernel_rfl) (by kernel_rfl)
      (OpenSpec.preRow_of_cond 8 hx (by kernel_rfl) (fun k hk => by cases hk) (by kernel_rfl) (digestJoins_laid_met os))) ?_
  intro W base args ds gs before hval0 hW hcnd hk0 hsz0 hL _ _
  have hG := laid_cells hL
  have hval : ∀ (j : Nat) t v, Tryd.f3.params[j]? = some t → args[j]? = some v → Value.okWide Tryd.prog W .any base t v := hval0
  have hW' := hW
  obtain ⟨p, q, hA0, hV, rfl, hfz, hnd⟩ := hW
  have hA : DataW.TrodAll enc Tryd.prog W 0 (fun _ => true) true Tryd.f3.params.toList args.toList ds p := hA0
  obtain ⟨rfl, rfl⟩ := trodVars_none hV
  have hsz : ∀ x ∈ DataW.weightsEach Tryd.prog Tryd.f3.params.toList ds, x ≤ maxB := by
    have h1 : (DataW.weightsEach Tryd.prog (Tryd.f3.params.toList ++ []) (ds ++ [])).all (· ≤ reachBytes) = true := hsz0
    simp only [List.append_nil] at h1
    intro x hx; have h2 := List.all_eq_true.1 h1 x hx; simp only [decide_eq_true_eq] at h2; exact h2
  rw [Tryd.params3] at hA hval hsz
  have hR := rdw_all tt_ok ctt_ok (closed_of tt_closed) (fun _ => rfl) 8 hA hsz
  have hback := fun (W2 : World) (hb : Below W.heap.size W W2) => trodAll_below (by kernel_rfl : laidOutB Tryd.prog = true) hb (by kernel_rfl) hA
  obtain ⟨v0, vs0, d0, ds0, p0, q0, hargs, rfl, rfl, h0, r0⟩ := trodAll_cons hA
  obtain ⟨v1, vs1, d1, ds1, p1, q1, rfl, rfl, rfl, h1, r1⟩ := trodAll_cons r0
  obtain ⟨v2, vs2, d2, ds2, p2, q2, rfl, rfl, rfl, h2, r2⟩ := trodAll_cons r1
  obtain ⟨rfl, rfl, rfl⟩ := trodAll_nil r2
  obtain rfl : args = #[v0, v1, v2] := by cases args; simp_all
  have R0 := hR 0 22 v0 rfl rfl
  have e0 := val_one tt_ok (t := 22) rfl (by intro h; cases h) rfl (hval 0 22 v0 rfl rfl)
  rw [e0] at R0
  have R1 := hR 1 9 v1 rfl rfl
  have e1 := val_one tt_ok (t := 9) rfl (by intro h; cases h) rfl (hval 1 9 v1 rfl rfl)
  rw [e1] at R1
  have R2 := hR 2 30 v2 rfl rfl
  have e2 := val_agg tt_ok (t := 30) rfl rfl (hval 2 30 v2 rfl rfl)
  generalize v2.cells.toList = c2 at e2 R2
  subst e2
  clear hval hval0 hsz hsz0 hR hA0
  refine (digestJoins_walk W hG v0 v1 c2 R0 R1 R2).mono fun e W2 ⟨he, hI⟩ => ?_
  subst he
  exact ⟨_, rfl, _, _, _, [], _, [], hW', trodAll_mk1 (shut_bool Tryd.underlying4 _), hback _ (below_of_inv hI), rfl, (below_of_inv hI).frame _, fun h => by cases h⟩

theorem digestJoins_said : Rows.DigestJoinsSaid :=
  OpenClaim.holds_of_cond 3 Tryd.f3 rfl rfl rfl rfl rfl rfl rfl ⟨rfl, rfl, rfl, rfl, rfl⟩ rfl rfl rfl rfl rfl (by kernel_rfl) Tryd.func3 (by kernel_rfl)
    (of_decide_eq_true (by kernel_rfl)) (by unfold Func.isWrapper; first | (rw [if_pos (by decide +kernel)]; kernel_rfl) | (rw [if_neg (by decide +kernel)]; exact ⟨rfl, rfl⟩))
    (fun os started H enc _ F => by rw [OpenClaim.pre_eq_preRow]; exact digestJoins_lifted os started H enc F)

theorem digestJoins_plain (f : FuncId) (fn : Func) (hf : Tryd.pinned.checked.prog.funcNamed "hindcast/hindcastlaw10.DigestJoins" = some f) (hfn : Tryd.pinned.checked.prog.funcs[f]? = some fn) :
    false = Tryd.pinned.checked.prog.looks [] ∧ ∀ (j : Nat) t, fn.params[j]? = some t → Tryd.pinned.checked.prog.wantsStandIn t = false := by
  obtain rfl : f = 3 := Option.some.inj ((show Tryd.prog.funcNamed "hindcast/hindcastlaw10.DigestJoins" = some 3 by kernel_rfl).symm.trans hf) |>.symm
  obtain rfl : fn = Tryd.f3 := (Option.some.inj (Tryd.func3.symm.trans hfn)).symm
  refine ⟨by kernel_rfl, fun j t ht => ?_⟩
  rw [Tryd.params3] at ht
  have hm : t ∈ [22, 9, 30] := by simpa using Array.mem_of_getElem? ht
  have hall : ([22, 9, 30].all fun u => !Tryd.prog.wantsStandIn u) = true := by kernel_rfl
  exact (show Tryd.prog.wantsStandIn t = false by simpa using List.all_eq_true.1 hall t hm)

theorem digestJoins_holds : Rows.DigestJoinsCardSaid :=
  Claim7.holds_tied_plain_at .later [] _ _ _ _ digestJoins_said (fun _ h => by cases h) (by kernel_rfl) (fun _ h => by cases h) digestJoins_row_tie rfl ⟨rfl, rfl⟩ (by kernel_rfl) rfl digestJoins_plain (by kernel_rfl)

end Go.Proofs.YtgnddjlbhfoioaaDoor
