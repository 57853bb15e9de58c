/-
  Chapter 10: the law DigestOn: what is joined part by part is joined as one; a chain goes on from where its first part ended.
-/
import Derived.Test.YtgnddjlbhfoioaaDoorDigestPure
import Derived.Test.YtgnddjlbhfoioaaDoorCards
import Derived.Test.YtgnddjlbhfoioaaDoorTie
import Derived.Test.YtgnddjlbhfoioaaDoorLaid
import Derived.Test.YtgnddjlbhfoioaaDoorWalk
import Derived.Deep.DeepHandedRow
namespace Go.Proofs.YtgnddjlbhfoioaaDoor
open Go.Proofs.YtgnddjlbhfoioaaDoor.Eng Go.RowKit Go.ChangeShapes Go.WideShapes Go.ChangeAt
set_option linter.unusedSimpArgs false
set_option linter.unusedVariables false
set_option maxHeartbeats 2000000
set_option maxRecDepth 20000

variable {F : Nat}

theorem on_loop {l : List (Int × Int)} (hF : 3 ≤ F) (hl : l.length ≤ 1000000) : ∀ (m i : Nat) (h : Int), l.length - i < m → i ≤ l.length →
    m_hindcastlaw10_DigestOn_L26 F l m h (i : Int) = some ((l.drop i).foldl mixv h)
  | 0, i, h, hm, _ => by omega
  | m + 1, i, h, hm, hi => by
    rw [m_hindcastlaw10_DigestOn_L26.eq_2]
    by_cases h1 : i < l.length
    · have hx : l[i]? = some l[i] := List.getElem?_eq_getElem h1
      have hw : IntKind.wrap .i64 ((i : Int) + 1) = ((i + 1 : Nat) : Int) := by rw [wr_i64 ⟨by omega, by omega⟩]; omega
      have ih := on_loop hF hl m (i + 1) (mixv h l[i]) (by omega) (by omega)
      simp only [decide_eq_true (show (i : Int) < (l.length : Int) by omega), cond_true, getI_nat, hx, Option.bind_some, mix_of h _ hF, hw, ih]
      rw [List.drop_eq_getElem_cons h1, List.foldl_cons]
    · simp only [decide_eq_false (show ¬ (i : Int) < (l.length : Int) by omega), cond_false]
      rw [List.drop_of_length_le (by omega)]
      rfl

theorem on_pure (hF : 4000 ≤ F) (hwk : m_hindcastlaw10_works F = some true) (h : Int) (x : T_hindcastlaw10_Parts) (l : List (Int × Int)) (hx : 0 ≤ x.At ∧ x.At ≤ 65535) : m_hindcastlaw10_DigestOn F h x l = some true := by
  simp only [m_hindcastlaw10_DigestOn, hwk]
  by_cases h1 : (1500 : Int) < (x.A.length : Int)
  · simp only [decide_eq_true h1, cond_true, Option.bind_some]
  by_cases h2 : (1500 : Int) < (x.B.length : Int)
  · simp only [decide_eq_true h2, decide_eq_false h1, cond_true, cond_false, Option.bind_some]
  by_cases h3 : (500 : Int) < (l.length : Int)
  · simp only [decide_eq_true h3, decide_eq_false h1, decide_eq_false h2, cond_true, cond_false, Option.bind_some]
  have ja := join_of (F := F) (s := x.A) (h := h) (by omega) (by omega)
  have jb := join_of (F := F) (s := x.B) (h := joinv h x.A) (by omega) (by omega)
  have jc := join_of (F := F) (s := x.A ++ x.B) (h := h) (by simp; omega) (by simp; omega)
  have hap : appI x.A x.B = some (x.A ++ x.B) := appI_of (by omega)
  obtain ⟨k, hk⟩ := Int.eq_ofNat_of_zero_le hx.1
  have w1 : IntKind.wrap .i64 x.At = (k : Int) := by rw [wr_i64 ⟨by omega, by omega⟩, hk]
  have w2 : IntKind.wrap .i64 ((l.length : Int) + 1) = ((l.length + 1 : Nat) : Int) := by rw [wr_i64 ⟨by omega, by omega⟩]; omega
  have hr : remI (k : Int) ((l.length + 1 : Nat) : Int) = some ((k % (l.length + 1) : Nat) : Int) := by
    unfold remI; rw [if_neg (by omega)]; rfl
  have hlt : k % (l.length + 1) ≤ l.length := by have := Nat.mod_lt k (show 0 < l.length + 1 by omega); omega
  generalize k % (l.length + 1) = q at *
  have hc : cutI l 0 (q : Int) = some (l.take q) := cutI_of (i := 0) (j := q) rfl rfl (by omega) hlt (by simp)
  have c1 := chain_of (F := F) (l := l.take q) (by omega) (by simp; omega) (by simp; omega)
  have c2 := chain_of (F := F) (l := l) (by omega) (by omega) (by omega)
  have c3 := on_loop (F := F) (l := l) (by omega) (by omega) F q ((l.take q).foldl mixv 14695981039346656037) (by omega) hlt
  rw [← List.foldl_append, List.take_append_drop] at c3
  simp only [decide_eq_false h1, decide_eq_false h2, decide_eq_false h3, cond_false, Option.bind_some, ja, jb, hap, jc, joinv_append, bne_self_eq_false, w1, w2, hr, hc, c1, c2, c3, beq_self_eq_true, cond_true]

theorem on_works : m_hindcastlaw10_works 4000 = some true := by kernel_rfl

theorem pair_rd {w : World} {m : Nat} {cs : List Value} (h : Rdw TT w (m + 2) 37 cs) : ∃ x : Int × Int, cs = e2 .u8 x := by
  obtain ⟨hl, hf⟩ := rd_arr h rfl
  match cs, hl with
  | [a, b], _ =>
    obtain ⟨x, rfl, wx⟩ := rd_cell (hf 0 (by omega)) rfl
    obtain ⟨y, rfl, wy⟩ := rd_cell (hf 1 (by omega)) rfl
    exact ⟨(x, y), rfl⟩

theorem parts_rd {w : World} {m : Nat} {cs : List Value} (h : Rdw TT w (m + 2) 43 cs) : ∃ x : T_hindcastlaw10_Parts, cs = [.string ⟨x.A.toArray⟩, .string ⟨x.B.toArray⟩, .int .u16 x.At] ∧ 0 ≤ x.At ∧ x.At ≤ 65535 := by
  obtain ⟨hl, hf⟩ := rd_struct h rfl
  match cs, hl with
  | [a, b, c], _ =>
    obtain ⟨s, hs, _⟩ := rd_str (hf (9, 0) (by simp)) rfl
    obtain rfl : a = .string s := List.cons.inj hs |>.1
    obtain ⟨t, ht, _⟩ := rd_str (hf (9, 1) (by simp)) rfl
    obtain rfl : b = .string t := List.cons.inj ht |>.1
    obtain ⟨z, rfl, wz⟩ := rd_cell (hf (27, 2) (by simp)) rfl
    exact ⟨⟨s.data.toList, t.data.toList, z⟩, rfl, wf_u16 wz⟩

theorem digestOn_walk (W : World) (hG : Rds W [] [] (some ⟨0, 0, none⟩) (flat (fun _ : Unit => gl_state_playerBounds) [()]) ∧ Rds W [] [] (some ⟨1, 0, none⟩) (flat (fun _ : Unit => gl_state_shotBounds) [()]))
    (v0 : Value) (c1 : List Value) (v2 : Value) (R0 : Rdw TT W 8 22 [v0]) (R1 : Rdw TT W 8 43 c1) (R2 : Rdw TT W 8 38 [v2]) :
    Calls Tryd.prog 5 #[v0, .agg c1.toArray, v2] W fun e w' => e = .returned (.bool true) ∧ Inv W [] w' [] := by
  obtain ⟨h, rfl, wf⟩ := rd_cell R0 rfl
  obtain ⟨p, rfl, hp⟩ := parts_rd R1
  obtain ⟨a, n, cap, xs, rfl, hn, hc, _, hr, _⟩ := rd_list (enc := e2 .u8) (ok := fun _ => True) R2 rfl rfl (e2_len _) (fun es _ h => by
    obtain ⟨x, hx⟩ := pair_rd h
    exact ⟨x, hx, trivial⟩)
  exact (k_hindcastlaw10_DigestOn hn hc (on_pure (F := 4000) (by omega) on_works _ _ _ hp)).run W ⟨hr, hG⟩

noncomputable def digestOn_world (os : Os) : World :=
  { World.holding Tryd.prog os ⟨#[], #[], []⟩ with heap := ((World.holding Tryd.prog os ⟨#[], #[], []⟩).heap.modify 0 fun | .cells _ t frozen => .cells gl_state_playerBounds.toArray t frozen | o => o).modify 1 fun | .cells _ t frozen => .cells gl_state_shotBounds.toArray t frozen | o => o }
theorem digestOn_laid_met (os : Os) : laidMet Tryd.prog Rows.digestOnRow.laid ((digestOn_world os).forCall (fun _ _ => 0) ⟨#[], #[.int .u64 0, .agg #[(.string ByteArray.empty), (.string ByteArray.empty), (.int .u16 0)], .slice none 0 0], []⟩).memory := laidMet_of_run' 8 (by kernel_rfl) (by kernel_rfl)
theorem digestOn_reads (os : Os) {H : Type} (enc : TypeId × Value → H) : ∃ places, DataW.whole enc Tryd.prog ((digestOn_world os).forCall (fun _ _ => 0) ⟨#[], #[.int .u64 0, .agg #[(.string ByteArray.empty), (.string ByteArray.empty), (.int .u16 0)], .slice none 0 0], []⟩).memory Tryd.f5.params.toList Rows.digestOnSpec.vars false (#[.int .u64 0, .agg #[(.string ByteArray.empty), (.string ByteArray.empty), (.int .u16 0)], .slice none 0 0] : Array Value).toList 8 = some ([.lit (.int .u64 0), .agg [.lit (.string []), .lit (.string []), .lit (.int .u16 0)], .nil], [], places) := ⟨[], by kernel_rfl⟩
set_option maxRecDepth 100000 in
theorem digestOn_lifted (os : Os) (started : os.Started) (H : Type) (enc : TypeId × Value → H) (F : Stop.Interp) :
    ReturnsInHanded {} Tryd.checked os 5 .any ((OpenSpec.ofChange Rows.digestOnSpec).preRow enc Tryd.prog Tryd.f5 Rows.digestOnRow.domain false Rows.digestOnRow.laid) (((OpenSpec.ofChange Rows.digestOnSpec).at F).post enc Tryd.prog Tryd.f5 false true false false) := by
  obtain ⟨places, hx⟩ := digestOn_reads os enc
  refine returnsInHanded_of_row (C := Tryd.checked) (s := OpenSpec.ofChange Rows.digestOnSpec) (by kernel_rfl) started (by kernel_rfl) Tryd.func5
    (witness_row_at (enc := enc) (C := Tryd.checked) false (digestOn_world os) #[.int .u64 0, .agg #[(.string ByteArray.empty), (.string ByteArray.empty), (.int .u16 0)], .slice none 0 0] rfl (by kernel_rfl) (by kernel_rfl) (by kernel_rfl)
      (OpenSpec.preRow_of_cond 8 hx (by kernel_rfl) (fun k hk => by cases hk) (by kernel_rfl) (digestOn_laid_met os))) ?_
  intro W base args ds gs before hval0 hW hcnd hk0 hsz0 hL _ _
  have hG := laid_cells hL
  have hval : ∀ (j : Nat) t v, Tryd.f5.params[j]? = some t → args[j]? = some v → Value.okWide Tryd.prog W .any base t v := hval0
  have hW' := hW
  obtain ⟨p, q, hA0, hV, rfl, hfz, hnd⟩ := hW
  have hA : DataW.TrodAll enc Tryd.prog W 0 (fun _ => true) true Tryd.f5.params.toList args.toList ds p := hA0
  obtain ⟨rfl, rfl⟩ := trodVars_none hV
  have hsz : ∀ x ∈ DataW.weightsEach Tryd.prog Tryd.f5.params.toList ds, x ≤ maxB := by
    have h1 : (DataW.weightsEach Tryd.prog (Tryd.f5.params.toList ++ []) (ds ++ [])).all (· ≤ reachBytes) = true := hsz0
    simp only [List.append_nil] at h1
    intro x hx; have h2 := List.all_eq_true.1 h1 x hx; simp only [decide_eq_true_eq] at h2; exact h2
  rw [Tryd.params5] at hA hval hsz
  have hR := rdw_all tt_ok ctt_ok (closed_of tt_closed) (fun _ => rfl) 8 hA hsz
  have hback := fun (W2 : World) (hb : Below W.heap.size W W2) => trodAll_below (by kernel_rfl : laidOutB Tryd.prog = true) hb (by kernel_rfl) hA
  obtain ⟨v0, vs0, d0, ds0, p0, q0, hargs, rfl, rfl, h0, r0⟩ := trodAll_cons hA
  obtain ⟨v1, vs1, d1, ds1, p1, q1, rfl, rfl, rfl, h1, r1⟩ := trodAll_cons r0
  obtain ⟨v2, vs2, d2, ds2, p2, q2, rfl, rfl, rfl, h2, r2⟩ := trodAll_cons r1
  obtain ⟨rfl, rfl, rfl⟩ := trodAll_nil r2
  obtain rfl : args = #[v0, v1, v2] := by cases args; simp_all
  have R0 := hR 0 22 v0 rfl rfl
  have e0 := val_one tt_ok (t := 22) rfl (by intro h; cases h) rfl (hval 0 22 v0 rfl rfl)
  rw [e0] at R0
  have R1 := hR 1 43 v1 rfl rfl
  have e1 := val_agg tt_ok (t := 43) rfl rfl (hval 1 43 v1 rfl rfl)
  generalize v1.cells.toList = c1 at e1 R1
  subst e1
  have R2 := hR 2 38 v2 rfl rfl
  have e2 := val_one tt_ok (t := 38) rfl (by intro h; cases h) rfl (hval 2 38 v2 rfl rfl)
  rw [e2] at R2
  clear hval hval0 hsz hsz0 hR hA0
  refine (digestOn_walk W hG v0 c1 v2 R0 R1 R2).mono fun e W2 ⟨he, hI⟩ => ?_
  subst he
  exact ⟨_, rfl, _, _, _, [], _, [], hW', trodAll_mk1 (shut_bool Tryd.underlying4 _), hback _ (below_of_inv hI), rfl, (below_of_inv hI).frame _, fun h => by cases h⟩

theorem digestOn_said : Rows.DigestOnSaid :=
  OpenClaim.holds_of_cond 5 Tryd.f5 rfl rfl rfl rfl rfl rfl rfl ⟨rfl, rfl, rfl, rfl, rfl⟩ rfl rfl rfl rfl rfl (by kernel_rfl) Tryd.func5 (by kernel_rfl)
    (of_decide_eq_true (by kernel_rfl)) (by unfold Func.isWrapper; first | (rw [if_pos (by decide +kernel)]; kernel_rfl) | (rw [if_neg (by decide +kernel)]; exact ⟨rfl, rfl⟩))
    (fun os started H enc _ F => by rw [OpenClaim.pre_eq_preRow]; exact digestOn_lifted os started H enc F)

theorem digestOn_plain (f : FuncId) (fn : Func) (hf : Tryd.pinned.checked.prog.funcNamed "hindcast/hindcastlaw10.DigestOn" = some f) (hfn : Tryd.pinned.checked.prog.funcs[f]? = some fn) :
    false = Tryd.pinned.checked.prog.looks [] ∧ ∀ (j : Nat) t, fn.params[j]? = some t → Tryd.pinned.checked.prog.wantsStandIn t = false := by
  obtain rfl : f = 5 := Option.some.inj ((show Tryd.prog.funcNamed "hindcast/hindcastlaw10.DigestOn" = some 5 by kernel_rfl).symm.trans hf) |>.symm
  obtain rfl : fn = Tryd.f5 := (Option.some.inj (Tryd.func5.symm.trans hfn)).symm
  refine ⟨by kernel_rfl, fun j t ht => ?_⟩
  rw [Tryd.params5] at ht
  have hm : t ∈ [22, 43, 38] := by simpa using Array.mem_of_getElem? ht
  have hall : ([22, 43, 38].all fun u => !Tryd.prog.wantsStandIn u) = true := by kernel_rfl
  exact (show Tryd.prog.wantsStandIn t = false by simpa using List.all_eq_true.1 hall t hm)

theorem digestOn_holds : Rows.DigestOnCardSaid :=
  Claim7.holds_tied_plain_at .later [] _ _ _ _ digestOn_said (fun _ h => by cases h) (by kernel_rfl) (fun _ h => by cases h) digestOn_row_tie rfl ⟨rfl, rfl⟩ (by kernel_rfl) rfl digestOn_plain (by kernel_rfl)

end Go.Proofs.YtgnddjlbhfoioaaDoor
