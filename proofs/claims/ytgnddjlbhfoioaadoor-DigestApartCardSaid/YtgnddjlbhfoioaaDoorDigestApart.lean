/-
  Chapter 10: the law DigestApart: texts that differ in one byte alone, and chains in one pair alone, are unlike.
-/
import Derived.Test.YtgnddjlbhfoioaaDoorDigestInj
import Derived.Test.YtgnddjlbhfoioaaDoorCards
import Derived.Test.YtgnddjlbhfoioaaDoorTie
import Derived.Test.YtgnddjlbhfoioaaDoorLaid
import Derived.Test.YtgnddjlbhfoioaaDoorWalk
import Derived.Deep.DeepHandedRow
namespace Go.Proofs.YtgnddjlbhfoioaaDoor
open Go.Proofs.YtgnddjlbhfoioaaDoor.Eng Go.RowKit Go.ChangeShapes Go.WideShapes Go.ChangeAt
set_option linter.unusedSimpArgs false
set_option linter.unusedVariables false
set_option maxHeartbeats 2000000
set_option maxRecDepth 20000

variable {F : Nat}

def okB (c : UInt8) : Prop := True
theorem byte_R (c : UInt8) : R8 (c.toNat : Int) := ⟨by omega, by have := c.toNat_lt; omega⟩

theorem joinv_l {s : List UInt8} {h h' : Int} (r : R64 h) (r' : R64 h') (e : joinv h s = joinv h' s) : h = h' :=
  fold_l (f := fun h (c : UInt8) => stp h (c.toNat : Int)) (ok := okB) (fun h c => stp_R _ _) (fun h h' c r r' _ e => stp_l r r' (byte_R c) e) s h h' (fun _ _ => trivial) r r' e
theorem joinv_set {s : List UInt8} {k : Nat} {x y : UInt8} (hk : s[k]? = some x) {h : Int} (r : R64 h) (e : joinv h (s.set k y) = joinv h s) : y = x :=
  fold_set (f := fun h (c : UInt8) => stp h (c.toNat : Int)) (ok := okB) (fun h c => stp_R _ _) (fun h h' c r r' _ e => stp_l r r' (byte_R c) e)
    (fun h c c' r _ _ e => by
      have := stp_r r (byte_R c) (byte_R c') e
      exact UInt8.toNat_inj.1 (by omega)) hk (fun _ _ => trivial) trivial r e
theorem chain_set {l : List (Int × Int)} {k : Nat} {x y : Int × Int} (hk : l[k]? = some x) {h : Int} (ho : ∀ p ∈ l, R8 p.1 ∧ R8 p.2) (hy : R8 y.1 ∧ R8 y.2) (r : R64 h) (e : (l.set k y).foldl mixv h = l.foldl mixv h) : y = x :=
  fold_set (f := mixv) (ok := fun p => R8 p.1 ∧ R8 p.2) mixv_R (fun h h' p r r' o e => mixv_l r r' o e) (fun h p p' r o o' e => mixv_r r o o' e) hk ho hy r e

theorem toB_set (s : List UInt8) (k : Nat) (v : Int) : toB (setI (fromB s) (k : Int) v) = s.set k (UInt8.ofNat v.toNat) := by
  unfold toB fromB setI
  rw [Int.toNat_natCast, List.map_set, List.map_map]
  have : ((fun (n : Int) => UInt8.ofNat n.toNat) ∘ fun (b : UInt8) => (b.toNat : Int)) = id := by
    funext b
    simp
  rw [this, List.map_id]

theorem apart_pure (hF : 1600 ≤ F) (hwk : m_hindcastlaw10_works F = some true) {a b : Int} {x : T_hindcastlaw10_Change} (ha : R64 a) (hb : R64 b) (hx : 0 ≤ x.At ∧ x.At ≤ 65535) (hB : R8 x.Byte) (hP : R8 x.Pair.1 ∧ R8 x.Pair.2)
    (hL : ∀ p ∈ x.L, R8 p.1 ∧ R8 p.2) : m_hindcastlaw10_DigestApart F a b x = some true := by
  obtain ⟨S, L, At, By, Pr⟩ := x
  simp only at hx hB hP hL
  simp only [m_hindcastlaw10_DigestApart, hwk, or_some, and_some, Option.bind_some]
  by_cases h1 : (1500 : Int) < (S.length : Int)
  · simp only [decide_eq_true h1, Bool.true_or, cond_true]
  by_cases h2 : (500 : Int) < (L.length : Int)
  · simp only [decide_eq_true h2, Bool.or_true, cond_true]
  simp only [decide_eq_false h1, decide_eq_false h2, Bool.or_false, cond_false]
  have ja := join_of (F := F) (s := S) (h := a) (by omega) (by omega)
  have jb := join_of (F := F) (s := S) (h := b) (by omega) (by omega)
  have jab : (joinv a S == joinv b S) = (a == b) := by
    by_cases e : a = b
    · subst e; simp
    · rw [beq_eq_false_iff_ne.2 e, beq_eq_false_iff_ne.2 (fun q => e (joinv_l ha hb q))]
  simp only [ja, jb, Option.bind_some, jab, bne_self_eq_false, cond_false]
  obtain ⟨k, hk⟩ := Int.eq_ofNat_of_zero_le hx.1
  have w1 : IntKind.wrap .i64 At = (k : Int) := by rw [wr_i64 ⟨by omega, by omega⟩, hk]
  have hrem : ∀ n : Nat, 0 < n → remI (k : Int) (n : Int) = some ((k % n : Nat) : Int) := fun n hn => by
    unfold remI; rw [if_neg (by omega)]; rfl
  have tail : (cond ((L.length : Int) == (0 : Int)) (some true) (Option.bind (appI ([] : List (Int × Int)) L) fun v80 => (Option.bind (remI (k : Int) (v80.length : Int)) fun v86 => (Option.bind (getI v80 v86) fun v91 =>
      (Option.bind (m_digest_Chain F (setI v80 v86 Pr)) fun v93 => (Option.bind (m_digest_Chain F L) fun v96 => (Option.bind (getI L v86) fun v103 =>
      some (((v93 == v96) == ((Pr.1 == v103.1) && (Pr.2 == v103.2))) && true))))))) ) = some true := by
    by_cases h0 : L.length = 0
    · rw [h0]; rfl
    · have e0 : ((L.length : Int) == (0 : Int)) = false := beq_eq_false_iff_ne.2 (by omega)
      have a1 : appI ([] : List (Int × Int)) L = some L := by rw [appI_of (by simp; omega)]; rfl
      have hlt : k % L.length < L.length := Nat.mod_lt _ (by omega)
      rw [e0, cond_false, a1]
      simp only [Option.bind_some, hrem L.length (by omega)]
      generalize k % L.length = q at *
      have hq : L[q]? = some L[q] := List.getElem?_eq_getElem hlt
      have es : setI L (q : Int) Pr = L.set q Pr := by unfold setI; rw [Int.toNat_natCast]
      have c1 := chain_of (F := F) (l := L.set q Pr) (by omega) (by simp; omega) (by simp; omega)
      have c2 := chain_of (F := F) (l := L) (by omega) (by omega) (by omega)
      simp only [getI_nat, hq, Option.bind_some, es, c1, c2, Bool.and_true]
      have key : ((L.set q Pr).foldl mixv 14695981039346656037 == L.foldl mixv 14695981039346656037) = ((Pr.1 == L[q].1) && (Pr.2 == L[q].2)) := by
        by_cases e : Pr = L[q]
        · have : L.set q Pr = L := by rw [e]; exact List.set_getElem_self hlt
          rw [this, e]; simp
        · rw [beq_eq_false_iff_ne.2 (fun z => e (chain_set hq hL hP ⟨by omega, by omega⟩ z))]
          symm
          cases hh : ((Pr.1 == L[q].1) && (Pr.2 == L[q].2)) with
          | false => rfl
          | true =>
            simp only [Bool.and_eq_true, beq_iff_eq] at hh
            exact absurd (Prod.ext hh.1 hh.2) e
      rw [key, beq_self_eq_true]
  by_cases hc : 0 < S.length ∧ 0 < By
  · have hlt : k % S.length < S.length := Nat.mod_lt _ hc.1
    have hfl : (fromB S).length = S.length := by simp [fromB]
    simp only [decide_eq_true (show (0 : Int) < (S.length : Int) by omega), decide_eq_true hc.2, Bool.and_self, cond_true, w1, hfl, hrem S.length hc.1, Option.bind_some]
    generalize k % S.length = q at *
    have hq : S[q]? = some S[q] := List.getElem?_eq_getElem hlt
    have hq2 : (fromB S)[q]? = some (S[q].toNat : Int) := by unfold fromB; rw [List.getElem?_map, hq]; rfl
    simp only [getI_nat, hq2, Option.bind_some, toB_set]
    obtain ⟨c, rfl, hc8⟩ := hB.nat
    rw [xor8 S[q].toNat_lt hc8, Int.toNat_natCast]
    have jc := join_of (F := F) (s := S.set q (UInt8.ofNat (S[q].toNat ^^^ c))) (h := a) (by simp; omega) (by simp; omega)
    have hne : ¬ joinv a (S.set q (UInt8.ofNat (S[q].toNat ^^^ c))) = joinv a S := fun e => by
      have e2 := joinv_set hq ha e
      have e3 := congrArg UInt8.toNat e2
      rw [UInt8.toNat_ofNat', Nat.mod_eq_of_lt (show S[q].toNat ^^^ c < 2 ^ 8 from @Nat.xor_lt_two_pow _ _ 8 S[q].toNat_lt hc8)] at e3
      have e4 : c = 0 := xor_cancel_l (c := S[q].toNat) (by rw [e3, Nat.xor_zero])
      omega
    simp only [jc, Option.bind_some, beq_eq_false_iff_ne.2 hne, cond_false]
    exact tail
  · have : (decide ((0 : Int) < (S.length : Int)) && decide (0 < By)) = false := by
      cases h : (decide ((0 : Int) < (S.length : Int)) && decide (0 < By)) with
      | false => rfl
      | true => simp only [Bool.and_eq_true, decide_eq_true_eq] at h; exact absurd ⟨by omega, h.2⟩ hc
    rw [this, cond_false, w1]
    exact tail

theorem apart_works : m_hindcastlaw10_works 1700 = some true := by kernel_rfl

theorem pair_rd {w : World} {m : Nat} {cs : List Value} (h : Rdw TT w (m + 2) 37 cs) : ∃ x : Int × Int, cs = e2 .u8 x ∧ (R8 x.1 ∧ R8 x.2) := by
  obtain ⟨hl, hf⟩ := rd_arr h rfl
  match cs, hl with
  | [a, b], _ =>
    obtain ⟨x, rfl, wx⟩ := rd_cell (hf 0 (by omega)) rfl
    obtain ⟨y, rfl, wy⟩ := rd_cell (hf 1 (by omega)) rfl
    exact ⟨(x, y), rfl, wf_u8 wx, wf_u8 wy⟩

theorem change_rd {W : World} {m : Nat} {cs : List Value} (h : Rdw TT W (m + 4) 46 cs) :
    ∃ (x : T_hindcastlaw10_Change) (a : Option Addr) (n cap : Nat), cs = [.string ⟨x.S.toArray⟩, .slice a n cap, .int .u16 x.At, .int .u8 x.Byte, .int .u8 x.Pair.1, .int .u8 x.Pair.2] ∧ n = x.L.length ∧ n ≤ cap ∧ Rds W [] [] a (flat (e2 .u8) x.L) ∧
      (0 ≤ x.At ∧ x.At ≤ 65535) ∧ R8 x.Byte ∧ (R8 x.Pair.1 ∧ R8 x.Pair.2) ∧ ∀ p ∈ x.L, R8 p.1 ∧ R8 p.2 := by
  obtain ⟨hl, hf⟩ := rd_struct h rfl
  match cs, hl with
  | [c0, v, c2, c3, p0, p1], _ =>
    obtain ⟨s, hs, _⟩ := rd_str (hf (9, 0) (by simp)) rfl
    obtain rfl : c0 = .string s := List.cons.inj hs |>.1
    have hS : Rdw TT W (m + 3) 38 [v] := hf (38, 1) (by simp)
    obtain ⟨z, rfl, wz⟩ := rd_cell (hf (27, 2) (by simp)) rfl
    obtain ⟨y, rfl, wy⟩ := rd_cell (hf (5, 3) (by simp)) rfl
    obtain ⟨p, hp, op⟩ := pair_rd (m := m + 1) (hf (37, 4) (by simp))
    obtain ⟨a, n, cap, xs, hv, hn, hc, _, hr, hok⟩ := rd_list (enc := e2 .u8) (ok := fun x : Int × Int => R8 x.1 ∧ R8 x.2) hS rfl rfl (e2_len _) (fun es _ h => pair_rd h)
    refine ⟨⟨s.data.toList, xs, z, y, p⟩, a, n, cap, ?_, hn, hc, hr, wf_u16 wz, wf_u8 wy, op, hok⟩
    rw [hv]
    have hp' : [p0, p1] = e2 .u8 p := hp
    simp only [e2, List.cons.injEq, and_true] at hp'
    obtain ⟨rfl, rfl⟩ := hp'
    rfl

theorem digestApart_walk (W : World) (hG : Rds W [] [] (some ⟨0, 0, none⟩) (flat (fun _ : Unit => gl_state_playerBounds) [()]) ∧ Rds W [] [] (some ⟨1, 0, none⟩) (flat (fun _ : Unit => gl_state_shotBounds) [()]))
    (v0 v1 : Value) (c2 : List Value) (R0 : Rdw TT W 8 22 [v0]) (R1 : Rdw TT W 8 22 [v1]) (R2 : Rdw TT W 8 46 c2) :
    Calls Tryd.prog 6 #[v0, v1, .agg c2.toArray] W fun e w' => e = .returned (.bool true) ∧ Inv W [] w' [] := by
  obtain ⟨a, rfl, wa⟩ := rd_cell R0 rfl
  obtain ⟨b, rfl, wb⟩ := rd_cell R1 rfl
  obtain ⟨x, ad, n, cap, rfl, hn, hc, hr, g1, g2, g3, g4⟩ := change_rd R2
  exact (k_hindcastlaw10_DigestApart hn hc (apart_pure (F := 1700) (by omega) apart_works (wf_u64 wa) (wf_u64 wb) g1 g2 g3 g4)).run W ⟨hr, hG⟩

noncomputable def digestApart_world (os : Os) : World :=
  { World.holding Tryd.prog os ⟨#[], #[], []⟩ with heap := ((World.holding Tryd.prog os ⟨#[], #[], []⟩).heap.modify 0 fun | .cells _ t frozen => .cells gl_state_playerBounds.toArray t frozen | o => o).modify 1 fun | .cells _ t frozen => .cells gl_state_shotBounds.toArray t frozen | o => o }
theorem digestApart_laid_met (os : Os) : laidMet Tryd.prog Rows.digestApartRow.laid ((digestApart_world os).forCall (fun _ _ => 0) ⟨#[], #[.int .u64 0, .int .u64 0, .agg #[(.string ByteArray.empty), (.slice none 0 0), (.int .u16 0), (.int .u8 0), (.int .u8 0), (.int .u8 0)]], []⟩).memory := laidMet_of_run' 8 (by kernel_rfl) (by kernel_rfl)
theorem digestApart_reads (os : Os) {H : Type} (enc : TypeId × Value → H) : ∃ places, DataW.whole enc Tryd.prog ((digestApart_world os).forCall (fun _ _ => 0) ⟨#[], #[.int .u64 0, .int .u64 0, .agg #[(.string ByteArray.empty), (.slice none 0 0), (.int .u16 0), (.int .u8 0), (.int .u8 0), (.int .u8 0)]], []⟩).memory Tryd.f6.params.toList Rows.digestApartSpec.vars false (#[.int .u64 0, .int .u64 0, .agg #[(.string ByteArray.empty), (.slice none 0 0), (.int .u16 0), (.int .u8 0), (.int .u8 0), (.int .u8 0)]] : Array Value).toList 8 = some ([.lit (.int .u64 0), .lit (.int .u64 0), .agg [.lit (.string []), .nil, .lit (.int .u16 0), .lit (.int .u8 0), .agg [.lit (.int .u8 0), .lit (.int .u8 0)]]], [], places) := ⟨[], by kernel_rfl⟩
set_option maxRecDepth 100000 in
theorem digestApart_lifted (os : Os) (started : os.Started) (H : Type) (enc : TypeId × Value → H) (F : Stop.Interp) :
    ReturnsInHanded {} Tryd.checked os 6 .any ((OpenSpec.ofChange Rows.digestApartSpec).preRow enc Tryd.prog Tryd.f6 Rows.digestApartRow.domain false Rows.digestApartRow.laid) (((OpenSpec.ofChange Rows.digestApartSpec).at F).post enc Tryd.prog Tryd.f6 false true false false) := by
  obtain ⟨places, hx⟩ := digestApart_reads os enc
  refine returnsInHanded_of_row (C := Tryd.checked) (s := OpenSpec.ofChange Rows.digestApartSpec) (by kernel_rfl) started (by kernel_rfl) Tryd.func6
    (witness_row_at (enc := enc) (C := Tryd.checked) false (digestApart_world os) #[.int .u64 0, .int .u64 0, .agg #[(.string ByteArray.empty), (.slice none 0 0), (.int .u16 0), (.int .u8 0), (.int .u8 0), (.int .u8 0)]] rfl (by kernel_rfl) (by kernel_rfl) (by kernel_rfl)
      (OpenSpec.preRow_of_cond 8 hx (by kernel_rfl) (fun k hk => by cases hk) (by kernel_rfl) (digestApart_laid_met os))) ?_
  intro W base args ds gs before hval0 hW hcnd hk0 hsz0 hL _ _
  have hG := laid_cells hL
  have hval : ∀ (j : Nat) t v, Tryd.f6.params[j]? = some t → args[j]? = some v → Value.okWide Tryd.prog W .any base t v := hval0
  have hW' := hW
  obtain ⟨p, q, hA0, hV, rfl, hfz, hnd⟩ := hW
  have hA : DataW.TrodAll enc Tryd.prog W 0 (fun _ => true) true Tryd.f6.params.toList args.toList ds p := hA0
  obtain ⟨rfl, rfl⟩ := trodVars_none hV
  have hsz : ∀ x ∈ DataW.weightsEach Tryd.prog Tryd.f6.params.toList ds, x ≤ maxB := by
    have h1 : (DataW.weightsEach Tryd.prog (Tryd.f6.params.toList ++ []) (ds ++ [])).all (· ≤ reachBytes) = true := hsz0
    simp only [List.append_nil] at h1
    intro x hx; have h2 := List.all_eq_true.1 h1 x hx; simp only [decide_eq_true_eq] at h2; exact h2
  rw [Tryd.params6] at hA hval hsz
  have hR := rdw_all tt_ok ctt_ok (closed_of tt_closed) (fun _ => rfl) 8 hA hsz
  have hback := fun (W2 : World) (hb : Below W.heap.size W W2) => trodAll_below (by kernel_rfl : laidOutB Tryd.prog = true) hb (by kernel_rfl) hA
  obtain ⟨v0, vs0, d0, ds0, p0, q0, hargs, rfl, rfl, h0, r0⟩ := trodAll_cons hA
  obtain ⟨v1, vs1, d1, ds1, p1, q1, rfl, rfl, rfl, h1, r1⟩ := trodAll_cons r0
  obtain ⟨v2, vs2, d2, ds2, p2, q2, rfl, rfl, rfl, h2, r2⟩ := trodAll_cons r1
  obtain ⟨rfl, rfl, rfl⟩ := trodAll_nil r2
  obtain rfl : args = #[v0, v1, v2] := by cases args; simp_all
  have R0 := hR 0 22 v0 rfl rfl
  have e0 := val_one tt_ok (t := 22) rfl (by intro h; cases h) rfl (hval 0 22 v0 rfl rfl)
  rw [e0] at R0
  have R1 := hR 1 22 v1 rfl rfl
  have e1 := val_one tt_ok (t := 22) rfl (by intro h; cases h) rfl (hval 1 22 v1 rfl rfl)
  rw [e1] at R1
  have R2 := hR 2 46 v2 rfl rfl
  have e2 := val_agg tt_ok (t := 46) rfl rfl (hval 2 46 v2 rfl rfl)
  generalize v2.cells.toList = c2 at e2 R2
  subst e2
  clear hval hval0 hsz hsz0 hR hA0
  refine (digestApart_walk W hG v0 v1 c2 R0 R1 R2).mono fun e W2 ⟨he, hI⟩ => ?_
  subst he
  exact ⟨_, rfl, _, _, _, [], _, [], hW', trodAll_mk1 (shut_bool Tryd.underlying4 _), hback _ (below_of_inv hI), rfl, (below_of_inv hI).frame _, fun h => by cases h⟩

theorem digestApart_said : Rows.DigestApartSaid :=
  OpenClaim.holds_of_cond 6 Tryd.f6 rfl rfl rfl rfl rfl rfl rfl ⟨rfl, rfl, rfl, rfl, rfl⟩ rfl rfl rfl rfl rfl (by kernel_rfl) Tryd.func6 (by kernel_rfl)
    (of_decide_eq_true (by kernel_rfl)) (by unfold Func.isWrapper; first | (rw [if_pos (by decide +kernel)]; kernel_rfl) | (rw [if_neg (by decide +kernel)]; exact ⟨rfl, rfl⟩))
    (fun os started H enc _ F => by rw [OpenClaim.pre_eq_preRow]; exact digestApart_lifted os started H enc F)

theorem digestApart_plain (f : FuncId) (fn : Func) (hf : Tryd.pinned.checked.prog.funcNamed "hindcast/hindcastlaw10.DigestApart" = some f) (hfn : Tryd.pinned.checked.prog.funcs[f]? = some fn) :
    false = Tryd.pinned.checked.prog.looks [] ∧ ∀ (j : Nat) t, fn.params[j]? = some t → Tryd.pinned.checked.prog.wantsStandIn t = false := by
  obtain rfl : f = 6 := Option.some.inj ((show Tryd.prog.funcNamed "hindcast/hindcastlaw10.DigestApart" = some 6 by kernel_rfl).symm.trans hf) |>.symm
  obtain rfl : fn = Tryd.f6 := (Option.some.inj (Tryd.func6.symm.trans hfn)).symm
  refine ⟨by kernel_rfl, fun j t ht => ?_⟩
  rw [Tryd.params6] at ht
  have hm : t ∈ [22, 22, 46] := by simpa using Array.mem_of_getElem? ht
  have hall : ([22, 22, 46].all fun u => !Tryd.prog.wantsStandIn u) = true := by kernel_rfl
  exact (show Tryd.prog.wantsStandIn t = false by simpa using List.all_eq_true.1 hall t hm)

theorem digestApart_holds : Rows.DigestApartCardSaid :=
  Claim7.holds_tied_plain_at .later [] _ _ _ _ digestApart_said (fun _ h => by cases h) (by kernel_rfl) (fun _ h => by cases h) digestApart_row_tie rfl ⟨rfl, rfl⟩ (by kernel_rfl) rfl digestApart_plain (by kernel_rfl)

end Go.Proofs.YtgnddjlbhfoioaaDoor
