/-
  Chapter 29: the law WatchFinds: two unlike digests of a frame clash, one a side or both of one side, with at most 7 other frames told between.
-/
import Derived.Test.YthlnellnlhkphaaWatchPure
import Derived.Test.YthlnellnlhkphaaRows
import Derived.Test.YthlnellnlhkphaaWalk
namespace Go.Proofs.Ythlnellnlhkphaa
open Go.Proofs.Ythlnellnlhkphaa.Eng Go.RowKit Go.ChangeShapes Go.WideShapes Go.ChangeAt
set_option linter.unusedSimpArgs false
set_option linter.unusedVariables false
set_option maxHeartbeats 2000000
set_option maxRecDepth 20000

variable {F : Nat}

/-- Entries of every fourth frame from one on, with a digest of one side each. -/
def mkE (s : Bool) (f n : Int) : T_watch_entry := if s then ⟨f, ⟨0, false⟩, ⟨n, true⟩⟩ else ⟨f, ⟨n, true⟩, ⟨0, false⟩⟩
def chainL (s : Bool) : Int → List Int → List T_watch_entry
  | _, [] => []
  | f, n :: ns => mkE s f n :: chainL s (f + 4) ns

theorem mkE_f (s : Bool) (f n : Int) : (mkE s f n).f = f := by cases s <;> rfl
theorem chain_length (s : Bool) : ∀ (f : Int) (ns : List Int), (chainL s f ns).length = ns.length
  | _, [] => rfl
  | f, n :: ns => by simp [chainL, chain_length s (f + 4) ns]
theorem chain_app (s : Bool) : ∀ (f : Int) (ns : List Int) (n : Int), chainL s f (ns ++ [n]) = chainL s f ns ++ [mkE s (f + 4 * (ns.length : Int)) n]
  | f, [], n => by simp [chainL]
  | f, m :: ns, n => by
    have h : f + 4 + 4 * (ns.length : Int) = f + 4 * ((m :: ns).length : Int) := by simp; omega
    rw [List.cons_append, chainL, chain_app s (f + 4) ns n, h]
    rfl
theorem chain_ge (s : Bool) : ∀ (f : Int) (ns : List Int) (x : T_watch_entry), x ∈ chainL s f ns → f ≤ x.f ∧ x.f < f + 4 * (ns.length : Int)
  | f, [], x, h => by cases h
  | f, n :: ns, x, h => by
    rcases List.mem_cons.1 h with rfl | h
    · rw [mkE_f]; simp; omega
    · have := chain_ge s (f + 4) ns x h
      simp only [List.length_cons]
      omega
theorem chain_srt (s : Bool) : ∀ (f : Int) (ns : List Int), Srt (chainL s f ns)
  | f, [] => List.Pairwise.nil
  | f, n :: ns => List.pairwise_cons.2 ⟨fun x hx => by have := chain_ge s (f + 4) ns x hx; rw [mkE_f]; omega, chain_srt s (f + 4) ns⟩

theorem pos_all : ∀ {l : List T_watch_entry} {f : Int}, (∀ x ∈ l, x.f < f) → pos l f = l.length
  | [], _, _ => rfl
  | x :: l, f, h => by
    unfold pos
    rw [if_pos (h x (List.mem_cons_self ..)), pos_all (fun y hy => h y (List.mem_cons_of_mem _ hy))]
    rfl

theorem told_next (s : Bool) {f : Int} {ns : List Int} (n : Int) (hf : f % 4 = 0 ∧ 0 ≤ f) (hl : ns.length < 8) :
    toldv s ⟨4, chainL s f ns, false⟩ (f + 4 * (ns.length : Int)) n = (⟨4, chainL s f (ns ++ [n]), false⟩, 0) := by
  have hp : pos (chainL s f ns) (f + 4 * (ns.length : Int)) = ns.length := by
    rw [pos_all (fun x hx => (chain_ge s f ns x hx).2), chain_length]
  have hh : has (chainL s f ns) (f + 4 * (ns.length : Int)) = false := by
    unfold has
    rw [hp, List.getElem?_eq_none (by rw [chain_length]; omega)]
  have hi : insE (chainL s f ns) (f + 4 * (ns.length : Int)) = chainL s f ns ++ [newE (f + 4 * (ns.length : Int))] := by
    unfold insE
    rw [hp, ← chain_length s f ns, List.take_length, List.drop_length, List.append_nil]
  have ha : atv (chainL s f ns) (f + 4 * (ns.length : Int)) = some (chainL s f ns ++ [newE (f + 4 * (ns.length : Int))], ns.length) := by
    unfold atv
    rw [hh, hi, hp, chain_length]
    simp [hl]
  have hm : (f + 4 * (ns.length : Int)).tmod 4 = 0 := by
    rw [Int.tmod_eq_emod_of_nonneg (by omega)]
    omega
  have hx : (chainL s f ns ++ [newE (f + 4 * (ns.length : Int))])[ns.length]? = some (newE (f + 4 * (ns.length : Int))) := by
    rw [List.getElem?_append_right (by rw [chain_length]; omega), chain_length]
    simp
  unfold toldv
  simp only [hm, ne_eq, not_true_eq_false, if_false, ha, hx]
  have h1 : putE s (newE (f + 4 * (ns.length : Int))) n = mkE s (f + 4 * (ns.length : Int)) n := by cases s <;> rfl
  have h2 : (sideE s (newE (f + 4 * (ns.length : Int)))).is_ = false := by cases s <;> rfl
  have h3 : odd (mkE s (f + 4 * (ns.length : Int)) n) = false := by cases s <;> simp [odd, mkE]
  rw [h1, h2, h3, chain_app, List.set_append_right _ _ (by rw [chain_length]; omega), chain_length]
  simp

theorem told_last (s : Bool) {f s0 : Int} {ns : List Int} (n : Int) (hf : f % 4 = 0 ∧ 0 ≤ f) : ∃ w', toldv true ⟨4, chainL s f (s0 :: ns), false⟩ f n = (w', if s0 != n then 14 else 0) := by
  have hp : pos (chainL s f (s0 :: ns)) f = 0 := by
    unfold chainL pos
    rw [mkE_f, if_neg (by omega)]
  have hh : has (chainL s f (s0 :: ns)) f = true := by
    unfold has
    rw [hp]
    simp [chainL, mkE_f]
  have ha : atv (chainL s f (s0 :: ns)) f = some (chainL s f (s0 :: ns), 0) := by
    unfold atv
    rw [hh, hp]
    rfl
  have hm : f.tmod 4 = 0 := by
    rw [Int.tmod_eq_emod_of_nonneg (by omega)]
    omega
  unfold toldv
  simp only [hm, ne_eq, not_true_eq_false, if_false, ha, show (chainL s f (s0 :: ns))[0]? = some (mkE s f s0) from rfl]
  have this : ((false || ((sideE true (mkE s f s0)).is_ && (sideE true (mkE s f s0)).n != n)) || odd (putE true (mkE s f s0) n)) = (s0 != n) := by
    cases s <;> simp [sideE, mkE, putE, odd]
  rw [this]
  exact ⟨_, rfl⟩

theorem finds_ok (s : Bool) {f : Int} {ns : List Int} (hl : ns.length ≤ 8) : WOk ⟨4, chainL s f ns, false⟩ := ⟨(show (0 : Int) < 4 by decide), chain_srt s f ns, by rw [chain_length]; exact hl⟩

theorem finds_loop (hF : 110 ≤ F) {p0 f s0 : Int} {bs : List Int} (hb : bs.length ≤ 7) (he : IntKind.wrap .u64 ((Int.tmod p0 288230376151711744) * (4 : Int)) = f) (hf : f % 4 = 0 ∧ 0 ≤ f) (hm : f ≤ 1152921504606846976) :
    ∀ (m i : Nat), bs.length - i < m → i ≤ bs.length →
    m_hindcastlaw29_WatchFinds_L34 F p0 bs m (i : Int) 4 (chainL false f (s0 :: bs.take i)) false 4 (chainL true f (s0 :: bs.take i)) false = some (.inl (false, 4, chainL false f (s0 :: bs), false, 4, chainL true f (s0 :: bs), false))
  | 0, i, h, _ => by omega
  | m + 1, i, h, hi => by
    rw [m_hindcastlaw29_WatchFinds_L34.eq_2]
    by_cases h1 : i < bs.length
    · have hx : bs[i]? = some bs[i] := List.getElem?_eq_getElem h1
      have w1 : IntKind.wrap .i64 ((i : Int) + 1) = ((i + 1 : Nat) : Int) := by rw [wr_i64 ⟨by omega, by omega⟩]; omega
      have w2 : IntKind.wrap .u64 ((i + 1 : Nat) : Int) = ((i + 1 : Nat) : Int) := wr_u64 ⟨by omega, by omega⟩
      have w3 : IntKind.wrap .u64 (4 * ((i + 1 : Nat) : Int)) = 4 * ((i + 1 : Nat) : Int) := wr_u64 ⟨by omega, by omega⟩
      have w4 : IntKind.wrap .u64 (f + 4 * ((i + 1 : Nat) : Int)) = f + 4 * ((i + 1 : Nat) : Int) := wr_u64 ⟨by omega, by omega⟩
      have hlen : (s0 :: bs.take i).length = i + 1 := by simp; omega
      have ht : s0 :: bs.take (i + 1) = (s0 :: bs.take i) ++ [bs[i]] := by rw [List.take_add_one, hx]; rfl
      rw [decide_eq_true (show (i : Int) < (bs.length : Int) by omega), cond_true]
      simp only [w1, w2, w3, he, w4, getI_nat, hx, Option.bind_some, own_of (finds_ok false (show (s0 :: bs.take i).length ≤ 8 by omega)) hF, other_of (finds_ok true (show (s0 :: bs.take i).length ≤ 8 by omega)) hF]
      have t1 := told_next false (f := f) (ns := s0 :: bs.take i) bs[i] hf (by omega)
      have t2 := told_next true (f := f) (ns := s0 :: bs.take i) bs[i] hf (by omega)
      rw [hlen] at t1 t2
      rw [t1]
      simp only [show ((0 : Int) != 0) = false from rfl, cond_false, t2, Option.bind_some]
      rw [← ht]
      exact finds_loop hF hb he hf hm m (i + 1) (by omega) (by omega)
    · rw [decide_eq_false (show ¬ (i : Int) < (bs.length : Int) by omega), cond_false, List.take_of_length_le (by omega)]

theorem finds_pure (hF : 110 ≤ F) (hwk : m_hindcastlaw29_awake F = some true) {p0 : Int} (hp : 0 ≤ p0 ∧ p0 ≤ 18446744073709551615) (p1 : Int × Int) (bs : List Int) : m_hindcastlaw29_WatchFinds F p0 p1 bs = some true := by
  unfold m_hindcastlaw29_WatchFinds
  have hn : m_watch_New F (4 : Int) = some (some ⟨4, [], false⟩) := rfl
  simp only [hn, Option.bind_some, poE, hwk]
  by_cases h1 : (7 : Int) < (bs.length : Int)
  · rw [decide_eq_true h1, cond_true]
  · rw [decide_eq_false h1, cond_false]
    obtain ⟨f, hf⟩ : ∃ f, f = IntKind.wrap .u64 ((Int.tmod p0 288230376151711744) * (4 : Int)) := ⟨_, rfl⟩
    have h2 : Int.tmod p0 288230376151711744 = p0 % 288230376151711744 := Int.tmod_eq_emod_of_nonneg hp.1
    have h3 : f = p0 % 288230376151711744 * 4 := by rw [hf, h2, wr_u64 ⟨by omega, by omega⟩]
    have h4 : f % 4 = 0 ∧ 0 ≤ f := by omega
    have a1 := told_next false (f := f) (ns := []) p1.1 h4 (by simp)
    have a2 := told_next true (f := f) (ns := []) p1.1 h4 (by simp)
    simp only [List.length_nil, Int.mul_zero, Int.add_zero, List.nil_append, show ((0 : Nat) : Int) = 0 from rfl] at a1 a2
    have hl := finds_loop (F := F) hF (p0 := p0) (s0 := p1.1) (bs := bs) (by omega) hf.symm h4 (by omega) F 0 (by omega) (by omega)
    rw [show bs.take 0 = [] from rfl, show ((0 : Nat) : Int) = 0 from rfl] at hl
    obtain ⟨w1, e1⟩ := told_last false (f := f) (s0 := p1.1) (ns := bs) p1.2 h4
    obtain ⟨w2, e2⟩ := told_last true (f := f) (s0 := p1.1) (ns := bs) p1.2 h4
    have k1 := own_of (F := F) (finds_ok false (f := f) (ns := []) (by simp)) hF f p1.1
    have k2 := other_of (F := F) (finds_ok true (f := f) (ns := []) (by simp)) hF f p1.1
    have k3 := other_of (F := F) (finds_ok false (f := f) (ns := p1.1 :: bs) (by simp; omega)) hF f p1.2
    have k4 := other_of (F := F) (finds_ok true (f := f) (ns := p1.1 :: bs) (by simp; omega)) hF f p1.2
    rw [a1] at k1
    rw [a2] at k2
    rw [e1] at k3
    rw [e2] at k4
    rw [← hf]
    simp only [show (⟨4, [], false⟩ : T_watch_Watch) = ⟨4, chainL false f [], false⟩ from rfl, k1, Option.bind_some]
    simp only [show (⟨4, chainL false f [], false⟩ : T_watch_Watch) = ⟨4, chainL true f [], false⟩ from rfl, k2, Option.bind_some, show ((0 : Int) != 0) = false from rfl, cond_false, hl, orE_l, k3, k4]
    cases p1.1 != p1.2 <;> rfl

theorem watchFinds_awake : m_hindcastlaw29_awake 110 = some true := by kernel_rfl

theorem sums_rd {w : World} {m : Nat} {cs : List Value} (h : Rdw TT w (m + 2) 23 cs) : ∃ x : Int × Int, cs = [.int .u64 x.1, .int .u64 x.2] := by
  obtain ⟨hl, hf⟩ := rd_arr h rfl
  match cs, hl with
  | [a, b], _ =>
    obtain ⟨x, rfl, wx⟩ := rd_cell (hf 0 (by omega)) rfl
    obtain ⟨y, rfl, wy⟩ := rd_cell (hf 1 (by omega)) rfl
    exact ⟨(x, y), rfl⟩

theorem watchFinds_walk (W : World) (v0 : Value) (c1 : List Value) (v2 : Value) (R0 : Rdw TT W 8 22 [v0]) (R1 : Rdw TT W 8 23 c1) (R2 : Rdw TT W 8 24 [v2]) :
    Calls Try.prog 3 #[v0, .agg c1.toArray, v2] W fun e w' => e = .returned (.bool true) ∧ Inv W [] w' [] := by
  obtain ⟨b, rfl, wf⟩ := rd_cell R0 rfl
  obtain ⟨p, rfl⟩ := sums_rd R1
  obtain ⟨a, n, cap, xs, rfl, hn, hc, _, hr, _⟩ := rd_list (enc := e1 .u64) (ok := fun _ => True) R2 rfl rfl (e1_len _) (fun es hes h => by
    match es, hes with
    | [c], _ =>
      obtain ⟨x, rfl, wx⟩ := rd_cell h rfl
      exact ⟨x, rfl, trivial⟩)
  exact (k_hindcastlaw29_WatchFinds hn hc (finds_pure (F := 110) (by omega) watchFinds_awake (wf_u64 wf) p xs)).run W hr

set_option maxRecDepth 100000 in
theorem watchFinds_lifted (os : Os) (started : os.Started) (H : Type) (enc : TypeId × Value → H) :
    ReturnsInHanded {} Try.checked os 3 .any (Rows.watchFindsSpec.pre6 enc Try.prog Try.f3 Rows.watchFindsRow.domain false) (Rows.watchFindsSpec.post enc Try.prog Try.f3 false true false false) := by
  refine returnsInHanded_of_change_sized (C := Try.checked) (by kernel_rfl) started (by kernel_rfl) Try.func3
    (ChangeSpec.witness6 (enc := enc) (C := Try.checked) false ⟨#[], #[.int .u64 0, .agg #[(.int .u64 0), (.int .u64 0)], .slice none 0 0], []⟩ 8 (by kernel_rfl) (by kernel_rfl) (by kernel_rfl) (by kernel_rfl)) ?_
  intro W base args ds gs before hval0 hW hcnd hsz0 _
  have hval : ∀ (j : Nat) t v, Try.f3.params[j]? = some t → args[j]? = some v → Value.okWide Try.prog W .any base t v := hval0
  have hW' := hW
  obtain ⟨p, q, hA0, hV, rfl, hfz, hnd⟩ := hW
  have hA : DataW.TrodAll enc Try.prog W 0 (fun _ => true) true Try.f3.params.toList args.toList ds p := hA0
  obtain ⟨rfl, rfl⟩ := trodVars_none hV
  have hsz : ∀ x ∈ DataW.weightsEach Try.prog Try.f3.params.toList ds, x ≤ maxB := by
    have h1 : (DataW.weightsEach Try.prog (Try.f3.params.toList ++ []) (ds ++ [])).all (· ≤ reachBytes) = true := hsz0
    simp only [List.append_nil] at h1
    intro x hx; have h2 := List.all_eq_true.1 h1 x hx; simp only [decide_eq_true_eq] at h2; exact h2
  rw [Try.params3] at hA hval hsz
  have hR := rdw_all tt_ok ctt_ok (closed_of tt_closed) (fun _ => rfl) 8 hA hsz
  have hback := fun (W2 : World) (hb : Below W.heap.size W W2) => trodAll_below (by kernel_rfl : laidOutB Try.prog = true) hb (by kernel_rfl) hA
  obtain ⟨v0, vs0, d0, ds0, p0, q0, hargs, rfl, rfl, h0, r0⟩ := trodAll_cons hA
  obtain ⟨v1, vs1, d1, ds1, p1, q1, rfl, rfl, rfl, h1, r1⟩ := trodAll_cons r0
  obtain ⟨v2, vs2, d2, ds2, p2, q2, rfl, rfl, rfl, h2, r2⟩ := trodAll_cons r1
  obtain ⟨rfl, rfl, rfl⟩ := trodAll_nil r2
  obtain rfl : args = #[v0, v1, v2] := by cases args; simp_all
  have R0 := hR 0 22 v0 rfl rfl
  have e0 := val_one tt_ok (t := 22) rfl (by intro h; cases h) rfl (hval 0 22 v0 rfl rfl)
  rw [e0] at R0
  have R1 := hR 1 23 v1 rfl rfl
  have e1 := val_agg tt_ok (t := 23) rfl rfl (hval 1 23 v1 rfl rfl)
  generalize v1.cells.toList = c1 at e1 R1
  subst e1
  have R2 := hR 2 24 v2 rfl rfl
  have e2 := val_one tt_ok (t := 24) rfl (by intro h; cases h) rfl (hval 2 24 v2 rfl rfl)
  rw [e2] at R2
  clear hval hval0 hsz hsz0 hR hA0
  refine (watchFinds_walk W v0 c1 v2 R0 R1 R2).mono fun e W2 ⟨he, hI⟩ => ?_
  subst he
  exact ⟨_, rfl, _, _, _, [], _, [], hW', trodAll_mk1 (shut_bool Try.underlying4 _), hback _ (below_of_inv hI), rfl, (below_of_inv hI).frame _, fun h => by cases h⟩

theorem watchFinds_holds : Rows.WatchFindsSaid :=
  OpenClaim.holds_of_wide 3 Try.f3 rfl rfl rfl rfl rfl rfl rfl ⟨rfl, rfl, rfl, rfl, rfl⟩ rfl rfl rfl rfl rfl (by kernel_rfl) Try.func3 (by kernel_rfl)
    (of_decide_eq_true (by kernel_rfl)) (by unfold Func.isWrapper; first | (rw [if_pos (by decide +kernel)]; kernel_rfl) | (rw [if_neg (by decide +kernel)]; exact ⟨rfl, rfl⟩))
    (fun os started H enc _ => watchFinds_lifted os started H enc)

end Go.Proofs.Ythlnellnlhkphaa
