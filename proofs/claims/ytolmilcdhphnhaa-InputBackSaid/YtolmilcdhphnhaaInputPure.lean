/-
  Chapter 06: lists of inputs as runs, and their bytes, in plain Lean.
-/
import Derived.Test.YtolmilcdhphnhaaCodecBackPure
namespace Go.Proofs.Ytolmilcdhphnhaa
open Go Go.Proofs.Ytolmilcdhphnhaa.Eng
set_option linter.unusedSimpArgs false
set_option linter.unusedVariables false
set_option maxHeartbeats 1000000

variable {F : Nat}

theorem toB_append (a b : List Int) : toB (a ++ b) = toB a ++ toB b := by simp [toB]
theorem toB_length (a : List Int) : (toB a).length = a.length := by simp [toB]
theorem vb_length : ∀ f n, (vb f n).length ≤ f + 1
  | 0, n => by simp [vb]
  | f + 1, n => by
    have := vb_length f (n / 128)
    unfold vb; split <;> simp <;> omega
theorem vb_pos : ∀ f n, 0 < (vb f n).length
  | 0, n => by simp [vb]
  | f + 1, n => by unfold vb; split <;> simp

/-! ### Runs -/
def glue1 (q : Nat × Int) : List (Nat × Int) → List (Nat × Int)
  | [] => [q]
  | p :: r => if p.2 = q.2 then (q.1 + p.1, q.2) :: r else q :: p :: r
def rle : List Int → List (Nat × Int)
  | [] => []
  | x :: l => glue1 (1, x) (rle l)
def expand : List (Nat × Int) → List Int
  | [] => []
  | p :: r => List.replicate p.1 p.2 ++ expand r
def Good : Option Int → List (Nat × Int) → Prop
  | _, [] => True
  | p, q :: r => 1 ≤ q.1 ∧ 0 ≤ q.2 ∧ q.2 < 64 ∧ p ≠ some q.2 ∧ Good (some q.2) r
def total : List (Nat × Int) → Nat
  | [] => 0
  | p :: r => p.1 + total r
def leg (x : Int) : Bool := decide (x < 64)
def encR (p : Nat × Int) : List Int := iL (vb 9 p.1) ++ [p.2]
def encRs (l : List (Nat × Int)) : List Int := (l.map encR).flatten
def packB (l : List Int) : List Int := iL (vb 9 (rle l).length) ++ encRs (rle l)

theorem encRs_cons (p : Nat × Int) (l : List (Nat × Int)) : encRs (p :: l) = encR p ++ encRs l := rfl
theorem encR_length (p : Nat × Int) : (encR p).length ≤ 11 := by
  have := vb_length 9 p.1
  simp [encR, iL_length]; omega
theorem encRs_length : ∀ l : List (Nat × Int), (encRs l).length ≤ 11 * l.length
  | [] => by simp [encRs]
  | p :: l => by
    have h1 := encR_length p
    have h2 := encRs_length l
    rw [encRs_cons, List.length_append, List.length_cons]; omega

theorem glue_same (n : Nat) (y : Int) (rs : List (Nat × Int)) : glue1 (n, y) (glue1 (1, y) rs) = glue1 (n + 1, y) rs := by
  cases rs with
  | nil => simp [glue1]
  | cons p r =>
    by_cases h : p.2 = y
    · simp [glue1, h, Nat.add_assoc]
    · simp [glue1, h]
theorem glue_other (n : Nat) {x y : Int} (h : x ≠ y) (k : Nat) (rs : List (Nat × Int)) : glue1 (n, y) (glue1 (k, x) rs) = (n, y) :: glue1 (k, x) rs := by
  cases rs with
  | nil => simp [glue1, h]
  | cons p r =>
    by_cases h2 : p.2 = x
    · simp [glue1, h2, h]
    · simp [glue1, h2, h]

theorem rle_length : ∀ l : List Int, (rle l).length ≤ l.length
  | [] => by simp [rle]
  | x :: l => by
    have ih := rle_length l
    unfold rle
    cases hr : rle l with
    | nil => simp [glue1]
    | cons p r =>
      rw [hr] at ih
      by_cases h : p.2 = x
      · simp [glue1, h]; simp at ih; omega
      · simp [glue1, h]; simp at ih; omega
theorem expand_glue (n : Nat) (y : Int) (rs : List (Nat × Int)) : expand (glue1 (n, y) rs) = List.replicate n y ++ expand rs := by
  cases rs with
  | nil => simp [glue1, expand]
  | cons p r =>
    by_cases h : p.2 = y
    · simp [glue1, h, expand, ← List.append_assoc, List.replicate_append_replicate]
    · simp [glue1, h, expand]
theorem expand_rle : ∀ l : List Int, expand (rle l) = l
  | [] => rfl
  | x :: l => by rw [rle, expand_glue, expand_rle l]; rfl
theorem total_expand : ∀ rs : List (Nat × Int), (expand rs).length = total rs
  | [] => rfl
  | p :: r => by simp [expand, total, total_expand r]
theorem good_none : ∀ {p : Option Int} {rs : List (Nat × Int)}, Good p rs → Good none rs
  | _, [], _ => trivial
  | _, q :: r, h => ⟨h.1, h.2.1, h.2.2.1, by simp, h.2.2.2.2⟩
theorem good_glue {n : Nat} {y : Int} (hn : 1 ≤ n) (h0 : 0 ≤ y) (h1 : y < 64) : ∀ {rs : List (Nat × Int)}, Good none rs → Good none (glue1 (n, y) rs)
  | [], _ => ⟨hn, h0, h1, by simp, trivial⟩
  | p :: r, h => by
    by_cases h2 : p.2 = y
    · simp only [glue1, h2, if_true]
      refine ⟨by have := h.1; show 1 ≤ n + p.1; omega, h0, h1, by simp, ?_⟩
      have := h.2.2.2.2
      rw [h2] at this
      exact this
    · simp only [glue1, h2, if_false]
      exact ⟨hn, h0, h1, by simp, h.1, h.2.1, h.2.2.1, by intro hh; exact h2 (Option.some.inj hh).symm, h.2.2.2.2⟩
theorem good_rle : ∀ {l : List Int}, (∀ x ∈ l, 0 ≤ x ∧ x < 64) → Good none (rle l)
  | [], _ => trivial
  | x :: l, h => good_glue (Nat.le_refl _) (h x (by simp)).1 (h x (by simp)).2 (good_rle fun y hy => h y (by simp [hy]))
theorem glue_good {n : Nat} {y : Int} {rs : List (Nat × Int)} (h : Good (some y) rs) : glue1 (n, y) rs = (n, y) :: rs := by
  cases rs with
  | nil => rfl
  | cons p r =>
    have : p.2 ≠ y := fun hh => h.2.2.2.1 (by rw [hh])
    simp [glue1, this]
theorem rle_replicate {x : Int} {l : List Int} (h : Good (some x) (rle l)) : ∀ n, rle (List.replicate (n + 1) x ++ l) = (n + 1, x) :: rle l
  | 0 => by show glue1 (1, x) (rle l) = _; rw [glue_good h]
  | n + 1 => by
    have ih := rle_replicate h n
    show glue1 (1, x) (rle (List.replicate (n + 1) x ++ l)) = _
    rw [ih]
    simp [glue1]; omega
theorem rle_expand : ∀ {p : Option Int} {rs : List (Nat × Int)}, Good p rs → rle (expand rs) = rs
  | _, [], _ => rfl
  | _, q :: r, h => by
    have ih := rle_expand h.2.2.2.2
    obtain ⟨n, hn⟩ : ∃ n, q.1 = n + 1 := ⟨q.1 - 1, by have := h.1; omega⟩
    have hg : Good (some q.2) (rle (expand r)) := by rw [ih]; exact h.2.2.2.2
    unfold expand
    rw [hn, rle_replicate hg n, ih, ← hn]

theorem rle_memI {l : List Int} (h : ∀ x ∈ l, 0 ≤ x ∧ x < 64) : ∀ p ∈ rle l, p.1 ≤ l.length ∧ 0 ≤ p.2 ∧ p.2 < 64 := by
  have key : ∀ {rs : List (Nat × Int)} {q : Option Int}, Good q rs → ∀ p ∈ rs, p.1 ≤ total rs ∧ 0 ≤ p.2 ∧ p.2 < 64 := by
    intro rs
    induction rs with
    | nil => intro q _ p hp; cases hp
    | cons a r ih =>
      intro q hg p hp
      rcases List.mem_cons.1 hp with rfl | hp
      · exact ⟨by simp [total], hg.2.1, hg.2.2.1⟩
      · obtain ⟨h1, h2⟩ := ih hg.2.2.2.2 p hp
        exact ⟨by simp only [total]; omega, h2⟩
  intro p hp
  have := key (good_rle h) p hp
  rw [← total_expand, expand_rle] at this
  exact this

/-! ### The program's runs -/
def toR (p : Nat × Int) : T_input_run := ⟨(p.1 : Int), p.2⟩

theorem runs_loop {l : List Int} (hl : l.length ≤ 100000) : ∀ (m i : Nat) (pre : List (Nat × Int)) (n : Nat) (y : Int), l.length - i < m → i ≤ l.length → pre.length ≤ i → n ≤ i →
    m_input_runs_L9 F l m ((pre ++ [(n, y)]).map toR) (i : Int) = some (if (l.drop i).all leg then .inl ((pre ++ glue1 (n, y) (rle (l.drop i))).map toR, false) else .inr ([], false))
  | 0, i, _, _, _, hm, _, _, _ => by omega
  | m + 1, i, pre, n, y, hm, hi, hp, hn => by
    rw [m_input_runs_L9.eq_2]
    by_cases h1 : i < l.length
    · have hx : l[i]? = some l[i] := List.getElem?_eq_getElem h1
      have hw : IntKind.wrap .i64 ((i : Int) + 1) = ((i + 1 : Nat) : Int) := by rw [wr_i64 ⟨by omega, by omega⟩]; omega
      have hlen : ((pre ++ [(n, y)]).map toR).length = pre.length + 1 := by simp
      have hw2 : IntKind.wrap .i64 ((((pre ++ [(n, y)]).map toR).length : Int) - 1) = (pre.length : Int) := by rw [hlen, wr_i64 ⟨by omega, by omega⟩]; omega
      have hg : getI ((pre ++ [(n, y)]).map toR) (pre.length : Int) = some (toR (n, y)) := by
        rw [getI_nat]; simp
      have hd : (l.drop i) = l[i] :: l.drop (i + 1) := List.drop_eq_getElem_cons h1
      have hpos : decide ((0 : Int) < (((pre ++ [(n, y)]).map toR).length : Int)) = true := decide_eq_true (by rw [hlen]; omega)
      have hr : rle (l.drop i) = glue1 (1, l[i]) (rle (l.drop (i + 1))) := by rw [hd]; rfl
      simp only [decide_eq_true (show (i : Int) < (l.length : Int) by omega), cond_true, getI_nat l, hx, Option.bind_some, m_input_Legal, hpos, hw2, hg, hw]
      rw [hr, hd, List.all_cons]
      by_cases h64 : l[i] < 64
      · have e1 : leg l[i] = true := decide_eq_true h64
        simp only [decide_eq_true h64, Bool.not_true, cond_false, e1, Bool.true_and]
        by_cases hy : y = l[i]
        · have e2 : ((toR (n, y)).i == l[i]) = true := beq_iff_eq.2 hy
          simp only [e2, cond_true]
          have hset : setI ((pre ++ [(n, y)]).map toR) (pre.length : Int) (T_input_run.mk (IntKind.wrap .i64 ((toR (n, y)).n + 1)) (toR (n, y)).i) = (pre ++ [(n + 1, y)]).map toR := by
            have hwn : IntKind.wrap .i64 ((n : Int) + 1) = ((n + 1 : Nat) : Int) := by rw [wr_i64 ⟨by omega, by omega⟩]; omega
            simp only [setI, toR, hwn, Int.toNat_natCast]
            simp
            rfl
          rw [hset, runs_loop hl m (i + 1) pre (n + 1) y (by omega) (by omega) (by omega) (by omega)]
          subst hy
          rw [glue_same]
        · have e2 : ((toR (n, y)).i == l[i]) = false := beq_eq_false_iff_ne.2 hy
          simp only [e2, cond_false]
          rw [appI_of (by rw [hlen]; simp; omega)]
          have e3 : ((pre ++ [(n, y)]).map toR) ++ [T_input_run.mk 1 l[i]] = ((pre ++ [(n, y)]) ++ [(1, l[i])]).map toR := by simp [toR]
          simp only [Option.bind_some]
          rw [e3, runs_loop hl m (i + 1) (pre ++ [(n, y)]) 1 l[i] (by omega) (by omega) (by simp; omega) (by omega)]
          rw [glue_other n (fun h => hy h.symm)]
          simp
      · have e1 : leg l[i] = false := decide_eq_false h64
        simp only [decide_eq_false h64, Bool.not_false, cond_true, e1, Bool.false_and]
        rfl
    · simp only [decide_eq_false (show ¬ (i : Int) < (l.length : Int) by omega), cond_false]
      rw [List.drop_of_length_le (by omega)]
      rfl

theorem runs_of {l : List Int} (hl : l.length ≤ 100000) (hF : l.length < F) : m_input_runs F l = some (if l.all leg then ((rle l).map toR, true) else ([], false)) := by
  simp only [m_input_runs]
  obtain ⟨m, hm⟩ : ∃ m, F = m + 1 := ⟨F - 1, by omega⟩
  have e : m_input_runs_L9 F l F = m_input_runs_L9 F l (m + 1) := by rw [← hm]
  rw [e, m_input_runs_L9.eq_2]
  cases l with
  | nil => rfl
  | cons x l =>
    have hx : getI (x :: l) 0 = some x := rfl
    have hlc : (x :: l).length = l.length + 1 := rfl
    have hw : IntKind.wrap .i64 ((0 : Int) + 1) = ((1 : Nat) : Int) := by rw [wr_i64 ⟨by omega, by omega⟩]; rfl
    have hpos : decide ((0 : Int) < (([] : List T_input_run).length : Int)) = false := rfl
    simp only [decide_eq_true (show (0 : Int) < ((x :: l).length : Int) by simp), cond_true, hx, Option.bind_some, m_input_Legal, hpos, cond_false, hw]
    by_cases h64 : x < 64
    · have e1 : leg x = true := decide_eq_true h64
      simp only [decide_eq_true h64, Bool.not_true, cond_false, List.all_cons, e1, Bool.true_and]
      have ha : appI ([] : List T_input_run) [T_input_run.mk 1 x] = some ((([] : List (Nat × Int)) ++ [(1, x)]).map toR) := by
        rw [appI_of (by simp)]; rfl
      rw [ha]
      simp only [Option.bind_some]
      rw [runs_loop hl m 1 [] 1 x (by omega) (by simp) (by simp) (by omega)]
      simp only [List.drop_succ_cons, List.drop_zero, List.nil_append]
      cases l.all leg
      · rfl
      · rfl
    · have e1 : leg x = false := decide_eq_false h64
      simp only [decide_eq_false h64, Bool.not_false, cond_true, List.all_cons, e1, Bool.false_and]
      rfl

theorem pack_loop {rs : List (Nat × Int)} (hs : rs.length ≤ 20000) (hF : 20 ≤ F) (ho : ∀ p ∈ rs, p.1 ≤ 100000 ∧ 0 ≤ p.2 ∧ p.2 < 256) : ∀ (m i : Nat) (b : List Int), rs.length - i < m → i ≤ rs.length → b.length ≤ 20 + 11 * i →
    m_input_Pack_L20 F (rs.map toR) m (i : Int) b = some (b ++ encRs (rs.drop i))
  | 0, i, b, hm, _, _ => by omega
  | m + 1, i, b, hm, hi, hb => by
    rw [m_input_Pack_L20.eq_2]
    by_cases h1 : i < rs.length
    · have hx : (rs.map toR)[i]? = some (toR rs[i]) := by rw [List.getElem?_map, List.getElem?_eq_getElem h1]; rfl
      have hw : IntKind.wrap .i64 ((i : Int) + 1) = ((i + 1 : Nat) : Int) := by rw [wr_i64 ⟨by omega, by omega⟩]; omega
      obtain ⟨o1, o2, o3⟩ := ho rs[i] (List.getElem_mem h1)
      have hwn : IntKind.wrap .u64 (toR rs[i]).n = ((rs[i].1 : Nat) : Int) := wr_u64 (x := ((rs[i].1 : Nat) : Int)) ⟨by omega, by omega⟩
      obtain ⟨c, hc⟩ := Int.eq_ofNat_of_zero_le o2
      have hi2 : (toR rs[i]).i = (c : Int) := hc
      have hel := encR_length rs[i]
      have hvl := vb_length 9 rs[i].1
      have ih := pack_loop hs hF ho m (i + 1) (b ++ encR rs[i]) (by omega) (by omega) (by rw [List.length_append]; omega)
      simp only [decide_eq_true (show (i : Int) < ((rs.map toR).length : Int) by simp; omega), cond_true, getI_nat, hx, Option.bind_some, hwn, hi2]
      rw [Var_of (F := F) (w := ⟨b⟩) (n := rs[i].1) (by omega) hF (by simp only; omega)]
      simp only [Option.bind_some]
      rw [U8_of (F := F) (n := c) (by omega) (by omega) (by simp [iL_length]; omega), le1 (by omega)]
      simp only [Option.bind_some, hw]
      have e : b ++ iL (vb 9 rs[i].1) ++ [(c : Int)] = b ++ encR rs[i] := by rw [encR, hc, List.append_assoc]
      rw [e, ih, List.drop_eq_getElem_cons h1, encRs_cons, List.append_assoc]
    · simp only [decide_eq_false (show ¬ (i : Int) < ((rs.map toR).length : Int) by simp; omega), cond_false]
      rw [List.drop_of_length_le (by omega)]
      simp [encRs]

/-- What Pack answers. -/
theorem pack_of {l : List Int} (h0 : ∀ x ∈ l, 0 ≤ x) (hl : l.length ≤ 10000) (hF : 20 ≤ F) (hF2 : l.length < F) : m_input_Pack F l = some (if l.all leg then toB (packB l) else []) := by
  simp only [m_input_Pack, runs_of (F := F) (l := l) (by omega) hF2, Option.bind_some]
  cases hg : l.all leg
  · simp
  · have hlg : ∀ x ∈ l, 0 ≤ x ∧ x < 64 := fun x hx => ⟨h0 x hx, by have := List.all_eq_true.1 hg x hx; exact of_decide_eq_true this⟩
    have hrl := rle_length l
    have hwl : IntKind.wrap .u64 (((rle l).map toR).length : Int) = (((rle l).length : Nat) : Int) := by rw [List.length_map]; exact wr_u64 ⟨by omega, by omega⟩
    have hvl := vb_length 9 (rle l).length
    have hloop := pack_loop (F := F) (rs := rle l) (by omega) hF (fun p hp => by have := rle_memI hlg p hp; omega) F 0 (iL (vb 9 (rle l).length)) (by omega) (by omega) (by rw [iL_length]; omega)
    rw [List.drop_zero] at hloop
    have hloop' : m_input_Pack_L20 F ((rle l).map toR) F 0 (iL (vb 9 (rle l).length)) = _ := hloop
    simp only [if_true, Bool.not_true, cond_false, hwl]
    rw [Var_of (F := F) (w := ⟨[]⟩) (n := (rle l).length) (by omega) hF (by simp)]
    simp only [Option.bind_some, List.nil_append, hloop', m_codec_Writer_Bytes]
    rfl

/-! ### The document's runs -/
def cnt (x : Int) : List Int → Nat
  | [] => 0
  | y :: l => if y = x then cnt x l + 1 else 0
theorem cnt_le (x : Int) : ∀ l, cnt x l ≤ l.length
  | [] => by simp [cnt]
  | y :: l => by have := cnt_le x l; unfold cnt; split <;> simp <;> omega
theorem rle_cnt (x : Int) : ∀ l, ∃ r, rle (x :: l) = (cnt x l + 1, x) :: r ∧ (r = match l with | [] => [] | y :: l' => if y = x then (rle (y :: l')).tail else rle (y :: l'))
  | [] => ⟨[], rfl, rfl⟩
  | y :: l => by
    obtain ⟨r, h1, h2⟩ := rle_cnt y l
    have e : rle (x :: y :: l) = glue1 (1, x) (rle (y :: l)) := rfl
    by_cases h : y = x
    · subst h
      refine ⟨r, ?_, by simp [h1]⟩
      rw [e, h1]
      simp [glue1, cnt]; omega
    · refine ⟨rle (y :: l), ?_, by simp [h]⟩
      rw [e, h1]
      simp [glue1, h, cnt]


/-! ### Reading -/
/-- A var and a byte: the place behind, the error, both. -/
def rd2 (S : List UInt8) (a : Nat) : Nat × Int × Nat × Nat :=
  ((numv S (readv S a 0).1 (readv S a 0).2.1 1).1, (numv S (readv S a 0).1 (readv S a 0).2.1 1).2.1, (readv S a 0).2.2, (numv S (readv S a 0).1 (readv S a 0).2.1 1).2.2)

def unpL (S : List UInt8) (most : Nat) : Nat → Nat → Nat → List Int → (List Int × Nat) ⊕ Int
  | 0, _, a, out => .inl (out, a)
  | r + 1, k, a, out =>
    if (rd2 S a).2.1 ≠ 0 then .inr (rd2 S a).2.1
    else if (rd2 S a).2.2.1 = 0 ∨ 64 ≤ (rd2 S a).2.2.2 ∨ (0 < k ∧ out.getLast? = some (((rd2 S a).2.2.2 : Nat) : Int)) then .inr 4
    else if most - out.length < (rd2 S a).2.2.1 then .inr 3
    else unpL S most r (k + 1) (rd2 S a).1 (out ++ List.replicate (rd2 S a).2.2.1 (((rd2 S a).2.2.2 : Nat) : Int))

def unpv (S : List UInt8) (most : Nat) : List Int × Int :=
  if (readv S 0 0).2.1 ≠ 0 then ([], (readv S 0 0).2.1)
  else if most < (readv S 0 0).2.2 then ([], 3)
  else match unpL S most (readv S 0 0).2.2 0 (readv S 0 0).1 [] with
    | .inr e => ([], e)
    | .inl (out, a) => if S.drop a = [] then (out, 0) else ([], 4)

theorem rd2_le {S : List UInt8} {a : Nat} (ha : a ≤ S.length) : (rd2 S a).1 ≤ S.length := numv_le (readv_le ha)
theorem unpL_le {S : List UInt8} {most : Nat} {o : List Int} {a' : Nat} : ∀ (r k a : Nat) (out : List Int), a ≤ S.length → unpL S most r k a out = .inl (o, a') → a' ≤ S.length
  | 0, k, a, out, ha, h => by
    simp only [unpL, Sum.inl.injEq, Prod.mk.injEq] at h
    omega
  | r + 1, k, a, out, ha, h => by
    have hle := rd2_le (S := S) ha
    simp only [unpL] at h
    split at h
    · cases h
    · split at h
      · cases h
      · split at h
        · cases h
        · exact unpL_le r _ _ _ hle h
theorem unpL_ne {S : List UInt8} {most : Nat} {e : Int} : ∀ (r k a : Nat) (out : List Int), unpL S most r k a out = .inr e → e ≠ 0
  | 0, k, a, out, h => by simp [unpL] at h
  | r + 1, k, a, out, h => by
    simp only [unpL] at h
    split at h
    · rename_i h1
      rw [← Sum.inr.inj h]; exact h1
    · split at h
      · rw [← Sum.inr.inj h]; decide
      · split at h
        · rw [← Sum.inr.inj h]; decide
        · exact unpL_ne r _ _ _ h
theorem unpv_err {S : List UInt8} {most : Nat} (h : (unpv S most).2 ≠ 0) : (unpv S most).1 = [] := by
  unfold unpv at h ⊢
  split
  · rfl
  · rename_i h1
    rw [if_neg h1] at h
    split
    · rfl
    · rename_i h2
      rw [if_neg h2] at h
      split
      · rfl
      · rename_i o a hu
        rw [hu] at h
        simp only at h ⊢
        split
        · rename_i h3
          rw [if_pos h3] at h; exact absurd rfl h
        · rfl
theorem rd2_lt {S : List UInt8} {a : Nat} : (rd2 S a).2.2.2 < 256 := by
  have := numv_lt (S := S) (a := (readv S a 0).1) (e := (readv S a 0).2.1) (k := 1) (by omega)
  rw [show (256 : Nat) ^ 1 = 256 from rfl] at this
  exact this

theorem last_of {out : List Int} (h : out ≠ []) (hl : out.length ≤ 100000) : getI out (IntKind.wrap .i64 ((out.length : Int) - 1)) = out.getLast? := by
  have hp := List.length_pos_iff.2 h
  have hw : IntKind.wrap .i64 ((out.length : Int) - 1) = ((out.length - 1 : Nat) : Int) := by rw [wr_i64 ⟨by omega, by omega⟩]; omega
  rw [hw, getI_nat, List.getLast?_eq_getElem?]

theorem last_dec {out : List Int} {k : Nat} {i : Int} (h : 0 < k → out ≠ []) (hl : out.length ≤ 100000) :
    (cond (decide ((0 : Int) < (k : Int))) ((Option.bind (getI out (IntKind.wrap .i64 ((out.length : Int) - (1 : Int)))) fun v60 => some ((v60 == i)))) (some (false))) = some (decide (0 < k ∧ out.getLast? = some i)) := by
  by_cases hk : 0 < k
  · have hne := h hk
    rw [decide_eq_true (show (0 : Int) < (k : Int) by omega), cond_true, last_of hne hl]
    obtain ⟨x, hx⟩ : ∃ x, out.getLast? = some x := by
      rcases hq : out.getLast? with _ | x
      · exact absurd (List.getLast?_eq_none_iff.1 hq) hne
      · exact ⟨x, rfl⟩
    rw [hx]
    simp only [Option.bind_some, hk, true_and, Option.some.injEq]
    by_cases he : x = i
    · rw [beq_iff_eq.2 he, decide_eq_true he]
    · rw [beq_eq_false_iff_ne.2 he, decide_eq_false he]
  · rw [decide_eq_false (show ¬ (0 : Int) < (k : Int) by omega), cond_false, decide_eq_false (by intro hh; exact hk hh.1)]

theorem rep_loop {n : Nat} {x : Int} (hn : n ≤ 100000) : ∀ (m j : Nat) (out : List Int), n - j < m → j ≤ n → out.length + (n - j) ≤ 200000 →
    m_input_Unpack_L66 F (n : Int) x m out (j : Int) = some (out ++ List.replicate (n - j) x)
  | 0, j, out, hm, _, _ => by omega
  | m + 1, j, out, hm, hj, ho => by
    rw [m_input_Unpack_L66.eq_2]
    by_cases h1 : j < n
    · have hw : IntKind.wrap .u64 ((j : Int) + 1) = ((j + 1 : Nat) : Int) := by rw [wr_u64 ⟨by omega, by omega⟩]; omega
      have ih := rep_loop (x := x) hn m (j + 1) (out ++ [x]) (by omega) (by omega) (by simp; omega)
      simp only [decide_eq_true (show (j : Int) < (n : Int) by omega), cond_true]
      rw [appI_of (by simp; omega)]
      simp only [Option.bind_some, hw, ih]
      rw [show n - j = (n - (j + 1)) + 1 by omega, List.replicate_succ, List.append_assoc]
      rfl
    · simp only [decide_eq_false (show ¬ (j : Int) < (n : Int) by omega), cond_false]
      rw [show n - j = 0 by omega]
      simp

theorem unp_loop {S : List UInt8} {p1 : Int} {most n : Nat} (hS : S.length ≤ 1000000) (hp : max 0 (min p1 4096) = (most : Int)) (hm4 : most ≤ 4096) (hF : 4200 ≤ F) : ∀ (r m k a : Nat) (out : List Int), r < m → k + r = n → n ≤ 4096 → a ≤ S.length → out.length ≤ most → (0 < k → out ≠ []) →
    m_input_Unpack_L29 F p1 (n : Int) m out (k : Int) (rdr S a 0) = some (match unpL S most r k a out with | .inr e => .inr ([], e) | .inl (o, a') => .inl ([], 0, o, rdr S a' 0))
  | r, 0, k, a, out, hm, _, _, _, _, _ => by omega
  | 0, m + 1, k, a, out, hm, hk, hn, ha, ho, hne => by
    rw [m_input_Unpack_L29.eq_2, decide_eq_false (show ¬ (k : Int) < (n : Int) by omega)]
    rfl
  | r + 1, m + 1, k, a, out, hm, hk, hn, ha, ho, hne => by
    rw [m_input_Unpack_L29.eq_2]
    have pv := var_r (F := F) (e := 0) ha hS (by omega)
    have p1' := get8_of (F := F) (S := S) (a := (readv S a 0).1) (e := (readv S a 0).2.1) (readv_le ha) hS (by omega)
    have e1 : numv S (readv S a 0).1 (readv S a 0).2.1 1 = ((rd2 S a).1, (rd2 S a).2.1, (rd2 S a).2.2.2) := rfl
    have e2 : (readv S a 0).2.2 = (rd2 S a).2.2.1 := rfl
    rw [e1] at p1'
    have hE : ∀ b e, m_codec_Reader_Err F (rdr S b e) = some e := fun _ _ => rfl
    have hle := rd2_le (S := S) ha
    have hlt := rd2_lt (S := S) (a := a)
    have hnl : (rd2 S a).2.2.1 < 18446744073709551616 := readv_lt
    simp only [decide_eq_true (show (k : Int) < (n : Int) by omega), cond_true, pv, Option.bind_some, m_codec_Reader_U8, p1', hE]
    rw [e2]
    simp only [unpL]
    generalize rd2 S a = q at *
    obtain ⟨a', e', c, i⟩ := q
    simp only at hle hlt hnl ⊢
    by_cases he : e' = 0
    · subst he
      have hc0 : (((c : Nat) : Int) == 0) = decide (c = 0) := by
        by_cases h : c = 0
        · rw [h]; rfl
        · rw [decide_eq_false h]; exact beq_eq_false_iff_ne.2 (by omega)
      have hi6 : decide (((i : Nat) : Int) < 64) = decide (i < 64) := by rw [decide_eq_decide]; omega
      have hb1 : (cond (decide (c = 0)) (some true) (some (!decide (i < 64)))) = some (decide (c = 0 ∨ 64 ≤ i)) := by
        by_cases h : c = 0
        · simp [h]
        · by_cases h6 : i < 64
          · simp [h, h6]
          · simp [h, h6]; omega
      simp only [show ((0 : Int) != 0) = false from rfl, cond_false, hc0, hi6, m_input_Legal, Option.bind_some, hb1, last_dec (i := (i : Int)) hne (show out.length ≤ 100000 by omega)]
      have hb2 : (cond (decide (c = 0 ∨ 64 ≤ i)) (some true) (some (decide (0 < k ∧ out.getLast? = some ((i : Nat) : Int))))) = some (decide (c = 0 ∨ 64 ≤ i ∨ (0 < k ∧ out.getLast? = some ((i : Nat) : Int)))) := by
        by_cases h : c = 0 ∨ 64 ≤ i
        · rw [decide_eq_true h, cond_true, decide_eq_true]
          rcases h with h | h
          · exact .inl h
          · exact .inr (.inl h)
        · rw [decide_eq_false h, cond_false]
          congr 1
          rw [decide_eq_decide]
          constructor
          · intro hh; exact .inr (.inr hh)
          · rintro (hh | hh | hh)
            · exact absurd (.inl hh) h
            · exact absurd (.inr hh) h
            · exact hh
      rw [hb2]
      simp only [Option.bind_some, ne_eq, not_true_eq_false, if_false]
      by_cases hbad : c = 0 ∨ 64 ≤ i ∨ (0 < k ∧ out.getLast? = some ((i : Nat) : Int))
      · rw [decide_eq_true hbad, if_pos hbad]
        rfl
      · rw [decide_eq_false hbad, if_neg hbad]
        have hwm : IntKind.wrap .u64 (IntKind.wrap .i64 (max 0 (min p1 4096) - (out.length : Int))) = ((most - out.length : Nat) : Int) := by
          rw [hp, wr_i64 ⟨by omega, by omega⟩, wr_u64 ⟨by omega, by omega⟩]; omega
        simp only [cond_false, hwm]
        by_cases hlong : most - out.length < c
        · rw [decide_eq_true (show ((most - out.length : Nat) : Int) < (c : Int) by omega), if_pos hlong]
          rfl
        · rw [decide_eq_false (show ¬ ((most - out.length : Nat) : Int) < (c : Int) by omega), if_neg hlong]
          have hrep := rep_loop (F := F) (n := c) (x := ((i : Nat) : Int)) (by omega) F 0 out (by omega) (by omega) (by omega)
          have hrep' : m_input_Unpack_L66 F (c : Int) (i : Int) F out 0 = some (out ++ List.replicate (c - 0) ((i : Nat) : Int)) := hrep
          have hwk : IntKind.wrap .u64 ((k : Int) + 1) = ((k + 1 : Nat) : Int) := by rw [wr_u64 ⟨by omega, by omega⟩]; omega
          simp only [cond_false, hrep', Option.bind_some, hwk, Nat.sub_zero]
          exact unp_loop hS hp hm4 hF r m (k + 1) a' (out ++ List.replicate c ((i : Nat) : Int)) (by omega) (by omega) hn hle (by simp; omega) (fun _ => by
            have : 0 < c := by omega
            intro h0
            have := congrArg List.length h0
            simp at this; omega)
    · simp only [bne_iff_ne.2 he, cond_true, ne_eq, he, not_false_eq_true, if_true, Option.bind_some]

/-- How much room there is. -/
def roomOf (p1 : Int) : Nat := (max 0 (min p1 4096)).toNat
theorem room_eq (p1 : Int) : max 0 (min p1 4096) = ((roomOf p1 : Nat) : Int) := by unfold roomOf; omega
theorem room_le (p1 : Int) : roomOf p1 ≤ 4096 := by unfold roomOf; omega

theorem unp_of {S : List UInt8} {p1 : Int} (hS : S.length ≤ 1000000) (hF : 4200 ≤ F) : m_input_Unpack F S p1 = some (unpv S (roomOf p1)) := by
  have hn : m_codec_New F S = some (rdr S 0 0) := rfl
  have pv := var_r (F := F) (S := S) (a := 0) (e := 0) (by omega) hS (by omega)
  have hE : ∀ b e, m_codec_Reader_Err F (rdr S b e) = some e := fun _ _ => rfl
  have hr := room_eq p1
  have hle := room_le p1
  have hrl := readv_le (S := S) (a := 0) (e := 0) (by omega)
  simp only [m_input_Unpack, hn, pv, Option.bind_some, hE]
  unfold unpv
  generalize readv S 0 0 = q at *
  obtain ⟨a, e, n⟩ := q
  simp only at hrl ⊢
  by_cases he : e = 0
  · subst he
    have hw : IntKind.wrap .u64 (max 0 (min p1 4096)) = ((roomOf p1 : Nat) : Int) := by rw [hr, wr_u64 ⟨by omega, by omega⟩]
    simp only [show ((0 : Int) != 0) = false from rfl, cond_false, hw, ne_eq, not_true_eq_false, if_false]
    by_cases hlong : roomOf p1 < n
    · rw [decide_eq_true (show ((roomOf p1 : Nat) : Int) < (n : Int) by omega), if_pos hlong]
      rfl
    · rw [decide_eq_false (show ¬ ((roomOf p1 : Nat) : Int) < (n : Int) by omega), if_neg hlong]
      have h := unp_loop (F := F) (n := n) hS hr hle hF n F 0 a [] (by omega) (by omega) (by omega) hrl (by simp) (by omega)
      have h' : m_input_Unpack_L29 F p1 (n : Int) F [] 0 (rdr S a 0) = _ := h
      simp only [cond_false, h']
      rcases unpL S (roomOf p1) n 0 a [] with ⟨o, a'⟩ | e
      · have hR : m_codec_Reader_Rest F (rdr S a' 0) = some (S.drop a') := rfl
        simp only [Option.bind_some, orE_l, hR]
        by_cases hd : S.drop a' = []
        · rw [beq_iff_eq.2 hd, if_pos hd]; rfl
        · rw [beq_eq_false_iff_ne.2 hd, if_neg hd]; rfl
      · rfl
  · simp only [bne_iff_ne.2 he, cond_true, ne_eq, he, not_false_eq_true, if_true, Option.bind_some]


/-! ### What was packed is unpacked -/
theorem bt_le1 {c : Nat} (h : c < 256) : bt (le 1 c) = toB [(c : Int)] := by unfold bt; rw [le1 h]

theorem rd2_back {S rest : List UInt8} {a n : Nat} {x : Int} (h0 : 0 ≤ x) (h1 : x < 64) (hn : n < 18446744073709551616) (ha : a ≤ S.length) (h : S.drop a = toB (encR (n, x)) ++ rest) : rd2 S a = (a + (encR (n, x)).length, 0, n, x.toNat) := by
  obtain ⟨c, rfl⟩ := Int.eq_ofNat_of_zero_le h0
  have hb : bt (vb 9 n) = toB (iL (vb 9 n)) := rfl
  have h' : S.drop a = bt (vb 9 n) ++ (toB [(c : Int)] ++ rest) := by
    rw [h, encR, toB_append, List.append_assoc]; rfl
  have hl : S.length - a = (vb 9 n).length + (1 + rest.length) := by
    have := congrArg List.length h'
    simpa [bt_length, toB_length] using this
  have hr := readv_back h' hn
  have hd : S.drop (a + (vb 9 n).length) = bt (le 1 c) ++ rest := by
    rw [← List.drop_drop, h', List.drop_left' (bt_length _), bt_le1 (by omega)]
  have hv := numv_back (k := 1) (n := c) (a := a + (vb 9 n).length) (by omega) hd (by omega)
  unfold rd2
  rw [hr]
  simp only [hv, Int.toNat_natCast]
  simp [encR, iL_length, Nat.add_assoc]

theorem unpL_back {S rest : List UInt8} {most : Nat} (hm : most ≤ 4096) : ∀ (rs : List (Nat × Int)) (p : Option Int) (k a : Nat) (out : List Int), Good p rs → (∀ x, 0 < k ∧ out.getLast? = some x → p = some x) → a ≤ S.length → out.length ≤ most → (∀ q ∈ rs, q.1 ≤ 100000) → S.drop a = toB (encRs rs) ++ rest →
    unpL S most rs.length k a out = if out.length + total rs ≤ most then .inl (out ++ expand rs, a + (encRs rs).length) else .inr 3
  | [], p, k, a, out, hg, hp, ha, ho, hq, h => by simp [unpL, total, expand, encRs, ho]
  | (n, x) :: rs, p, k, a, out, hg, hp, ha, ho, hq, h => by
    have hn : n ≤ 100000 := hq (n, x) (by simp)
    obtain ⟨g1, g2, g3, g4, g5⟩ := hg
    simp only at g1 g2 g3 g4 g5
    rw [encRs_cons, toB_append, List.append_assoc] at h
    have hr := rd2_back g2 g3 (by omega) ha h
    have hlen : (encR (n, x)).length ≤ S.length - a := by
      have := congrArg List.length h
      rw [List.length_drop, List.length_append, toB_length] at this; omega
    have hd : S.drop (a + (encR (n, x)).length) = toB (encRs rs) ++ rest := by
      rw [← List.drop_drop, h, List.drop_left' (toB_length _)]
    obtain ⟨c, rfl⟩ := Int.eq_ofNat_of_zero_le g2
    simp only [List.length_cons, unpL, hr, Int.toNat_natCast, ne_eq, not_true_eq_false, if_false]
    have hbad : ¬ (n = 0 ∨ 64 ≤ c ∨ (0 < k ∧ out.getLast? = some ((c : Nat) : Int))) := by
      rintro (h1 | h1 | h1)
      · omega
      · omega
      · exact g4 (hp _ h1)
    rw [if_neg hbad]
    by_cases hlong : most - out.length < n
    · rw [if_pos hlong, if_neg (by simp only [total]; omega)]
    · rw [if_neg hlong]
      have hlast : (out ++ List.replicate n ((c : Nat) : Int)).getLast? = some ((c : Nat) : Int) := by
        obtain ⟨q, rfl⟩ : ∃ q, n = q + 1 := ⟨n - 1, by omega⟩
        rw [List.replicate_succ', ← List.append_assoc, List.getLast?_concat]
      have ih := unpL_back hm rs (some ((c : Nat) : Int)) (k + 1) (a + (encR (n, ((c : Nat) : Int))).length) (out ++ List.replicate n ((c : Nat) : Int)) g5 (fun y hy => by rw [hlast] at hy; exact hy.2) (by omega) (by simp; omega) (fun q hh => hq q (by simp [hh])) hd
      rw [ih]
      simp only [List.length_append, List.length_replicate, total, expand, List.append_assoc, encRs_cons]
      by_cases ht : out.length + n + total rs ≤ most
      · rw [if_pos ht, if_pos (by omega), Nat.add_assoc]
      · rw [if_neg ht, if_neg (by omega)]

theorem rd2_torn {S : List UInt8} {a n t : Nat} {x : Int} (hn : n < 18446744073709551616) (ha : a ≤ S.length) (h : S.drop a = (toB (encR (n, x))).take t) (ht : t < (encR (n, x)).length) : (rd2 S a).2.1 = 10 := by
  have hl : S.length - a = t := by
    have := congrArg List.length h
    rw [List.length_drop, List.length_take, toB_length, Nat.min_eq_left (by omega)] at this
    exact this
  have hle : (encR (n, x)).length = (vb 9 n).length + 1 := by simp [encR, iL_length]
  rw [encR, toB_append] at h
  have h' : S.drop a = (bt (vb 9 n) ++ toB [x]).take t := h
  unfold rd2
  by_cases htv : t < (vb 9 n).length
  · rw [List.take_append_of_le_length (by rw [bt_length]; omega)] at h'
    rw [readv_torn ha h' htv]
    rw [numv_err (show (10 : Int) ≠ 0 by decide)]
  · rw [List.take_append, bt_length, List.take_of_length_le (by rw [bt_length]; omega)] at h'
    rw [readv_back h' hn]
    rw [numv_torn (by simp only; omega)]

theorem unpL_torn {S : List UInt8} {most : Nat} (hm : most ≤ 4096) : ∀ (rs : List (Nat × Int)) (p : Option Int) (k a t : Nat) (out : List Int), Good p rs → (∀ x, 0 < k ∧ out.getLast? = some x → p = some x) → a ≤ S.length → out.length + total rs ≤ most → S.drop a = (toB (encRs rs)).take t → t < (encRs rs).length →
    unpL S most rs.length k a out = .inr 10
  | [], p, k, a, t, out, hg, hp, ha, ho, h, ht => by simp [encRs] at ht
  | (n, x) :: rs, p, k, a, t, out, hg, hp, ha, ho, h, ht => by
    obtain ⟨g1, g2, g3, g4, g5⟩ := hg
    simp only at g1 g2 g3 g4 g5
    have hn : n ≤ most := by simp only [total] at ho; omega
    rw [encRs_cons, toB_append] at h
    rw [encRs_cons, List.length_append] at ht
    by_cases htl : t < (encR (n, x)).length
    · rw [List.take_append_of_le_length (by rw [toB_length]; omega)] at h
      have hr := rd2_torn (by omega) ha h htl
      simp only [List.length_cons, unpL, hr]
      rfl
    · rw [List.take_append, toB_length, List.take_of_length_le (by rw [toB_length]; omega)] at h
      have hr := rd2_back g2 g3 (by omega) ha h
      have hlen : (encR (n, x)).length ≤ S.length - a := by
        have := congrArg List.length h
        rw [List.length_drop, List.length_append, toB_length] at this; omega
      have hd : S.drop (a + (encR (n, x)).length) = (toB (encRs rs)).take (t - (encR (n, x)).length) := by
        rw [← List.drop_drop, h, List.drop_left' (toB_length _)]
      obtain ⟨c, rfl⟩ := Int.eq_ofNat_of_zero_le g2
      simp only [List.length_cons, unpL, hr, Int.toNat_natCast, ne_eq, not_true_eq_false, if_false]
      have hbad : ¬ (n = 0 ∨ 64 ≤ c ∨ (0 < k ∧ out.getLast? = some ((c : Nat) : Int))) := by
        rintro (h1 | h1 | h1)
        · omega
        · omega
        · exact g4 (hp _ h1)
      rw [if_neg hbad]
      simp only [total] at ho
      rw [if_neg (by omega)]
      have hlast : (out ++ List.replicate n ((c : Nat) : Int)).getLast? = some ((c : Nat) : Int) := by
        obtain ⟨q, rfl⟩ : ∃ q, n = q + 1 := ⟨n - 1, by omega⟩
        rw [List.replicate_succ', ← List.append_assoc, List.getLast?_concat]
      exact unpL_torn hm rs (some ((c : Nat) : Int)) (k + 1) (a + (encR (n, ((c : Nat) : Int))).length) _ (out ++ List.replicate n ((c : Nat) : Int)) g5 (fun y hy => by rw [hlast] at hy; exact hy.2) (by omega) (by simp; omega) hd (by omega)

theorem unpv_back {l : List Int} {most : Nat} (hm : most ≤ 4096) (hl : l.length ≤ 100000) (h : ∀ x ∈ l, 0 ≤ x ∧ x < 64) : unpv (toB (packB l)) most = if l.length ≤ most then (l, 0) else ([], 3) := by
  have hg := good_rle h
  have hb : (toB (packB l)).drop 0 = bt (vb 9 (rle l).length) ++ toB (encRs (rle l)) := by rw [List.drop_zero, packB, toB_append]; rfl
  have hrl := rle_length l
  have hr := readv_back hb (by omega)
  have ht : total (rle l) = l.length := by rw [← total_expand, expand_rle]
  have hlen : (toB (packB l)).length = (vb 9 (rle l).length).length + (encRs (rle l)).length := by rw [toB_length, packB, List.length_append, iL_length]
  have hd : (toB (packB l)).drop (0 + (vb 9 (rle l).length).length) = toB (encRs (rle l)) ++ [] := by
    rw [← List.drop_drop, hb, List.drop_left' (bt_length _), List.append_nil]
  have hu := unpL_back (most := most) hm (rle l) none 0 (0 + (vb 9 (rle l).length).length) [] hg (fun x hx => by omega) (by rw [hlen]; omega) (by simp) (fun q hq => by have := rle_memI h q hq; omega) hd
  rw [ht] at hu
  simp only [Nat.zero_add, List.length_nil] at hu
  unfold unpv
  rw [hr]
  simp only [ne_eq, not_true_eq_false, if_false, hu, List.length_nil, Nat.zero_add]
  by_cases h1 : most < (rle l).length
  · rw [if_pos h1, if_neg (by omega)]
  · rw [if_neg h1]
    by_cases h2 : l.length ≤ most
    · rw [if_pos h2, if_pos h2]
      simp only [List.nil_append, expand_rle]
      rw [if_pos (List.drop_of_length_le (by rw [hlen]; exact Nat.le_refl _))]
    · rw [if_neg h2, if_neg h2]

theorem unpv_torn {l : List Int} {c : Nat} (hl : l.length ≤ 4096) (h : ∀ x ∈ l, 0 ≤ x ∧ x < 64) (hc : c < (toB (packB l)).length) : unpv ((toB (packB l)).take c) 4096 = ([], 10) := by
  have hg := good_rle h
  have hb : toB (packB l) = bt (vb 9 (rle l).length) ++ toB (encRs (rle l)) := by rw [packB, toB_append]; rfl
  have hrl := rle_length l
  have ht : total (rle l) = l.length := by rw [← total_expand, expand_rle]
  have hlen : (toB (packB l)).length = (vb 9 (rle l).length).length + (encRs (rle l)).length := by rw [toB_length, packB, List.length_append, iL_length]
  have hcl : ((toB (packB l)).take c).length = c := by rw [List.length_take]; omega
  unfold unpv
  by_cases h1 : c < (vb 9 (rle l).length).length
  · have hd : ((toB (packB l)).take c).drop 0 = (bt (vb 9 (rle l).length)).take c := by
      rw [List.drop_zero, hb, List.take_append_of_le_length (by rw [bt_length]; omega)]
    rw [readv_torn (by omega) hd h1]
    rfl
  · have hd : ((toB (packB l)).take c).drop 0 = bt (vb 9 (rle l).length) ++ (toB (encRs (rle l))).take (c - (vb 9 (rle l).length).length) := by
      rw [List.drop_zero, hb, List.take_append, bt_length, List.take_of_length_le (by rw [bt_length]; omega)]
    rw [readv_back hd (by omega)]
    simp only [ne_eq, not_true_eq_false, if_false]
    rw [if_neg (by omega)]
    have hd2 : ((toB (packB l)).take c).drop (0 + (vb 9 (rle l).length).length) = (toB (encRs (rle l))).take (c - (vb 9 (rle l).length).length) := by
      rw [← List.drop_drop, hd, List.drop_left' (bt_length _)]
    have hu := unpL_torn (most := 4096) (by omega) (rle l) none 0 (0 + (vb 9 (rle l).length).length) (c - (vb 9 (rle l).length).length) [] hg (fun x hx => by omega) (by omega) (by simp [ht]; omega) hd2 (by omega)
    rw [hu]

/-! ### What was unpacked is packed -/
theorem rd2_one {S : List UInt8} {a : Nat} (h : (rd2 S a).2.1 = 0) : a ≤ (rd2 S a).1 ∧ (rd2 S a).1 ≤ S.length ∧ toB (encR ((rd2 S a).2.2.1, (((rd2 S a).2.2.2 : Nat) : Int))) = (S.drop a).take ((rd2 S a).1 - a) := by
  have hlt := rd2_lt (S := S) (a := a)
  unfold rd2 at h hlt ⊢
  simp only at h hlt ⊢
  obtain ⟨h1, h2, h3, h4⟩ := numv_one h
  obtain ⟨_, _, r3, r4, r5⟩ := readv_one h1
  generalize readv S a 0 = v at *
  obtain ⟨a1, e1, n⟩ := v
  simp only at *
  subst h1
  generalize numv S a1 0 1 = u at *
  obtain ⟨a2, e2, i⟩ := u
  simp only at *
  refine ⟨by omega, by omega, ?_⟩
  have hi : bt (le 1 i) = toB [(i : Int)] := bt_le1 hlt
  rw [encR, toB_append]
  show bt (vb 9 n) ++ toB [(i : Int)] = _
  rw [r5, ← hi, h4, h2, show a1 + 1 - a = (a1 - a) + 1 by omega, List.take_add, List.drop_drop, show a + (a1 - a) = a1 by omega]

theorem unpL_one {S : List UInt8} {most : Nat} {o : List Int} {a' : Nat} : ∀ (r k a : Nat) (out : List Int), a ≤ S.length → out.length ≤ most → unpL S most r k a out = .inl (o, a') →
    ∃ rs, rs.length = r ∧ Good (if 0 < k then out.getLast? else none) rs ∧ o = out ++ expand rs ∧ o.length ≤ most ∧ a ≤ a' ∧ a' ≤ S.length ∧ toB (encRs rs) = (S.drop a).take (a' - a)
  | 0, k, a, out, ha, ho, h => by
    simp only [unpL, Sum.inl.injEq, Prod.mk.injEq] at h
    obtain ⟨rfl, rfl⟩ := h
    exact ⟨[], rfl, trivial, by simp [expand], ho, by omega, ha, by simp [encRs, toB]⟩
  | r + 1, k, a, out, ha, ho, h => by
    have hone := rd2_one (S := S) (a := a)
    simp only [unpL] at h
    generalize rd2 S a = q at *
    obtain ⟨a1, e1, n, i⟩ := q
    simp only at h hone
    split at h
    · cases h
    · rename_i he
      have he : e1 = 0 := Decidable.not_not.1 he
      obtain ⟨o1, o2, o3⟩ := hone he
      split at h
      · cases h
      · rename_i hbad
        split at h
        · cases h
        · rename_i hlong
          obtain ⟨rs, h1, h2, h3, h4, h5, h6, h7⟩ := unpL_one r (k + 1) a1 (out ++ List.replicate n ((i : Nat) : Int)) o2 (by simp; omega) h
          have hlast : (out ++ List.replicate n ((i : Nat) : Int)).getLast? = some ((i : Nat) : Int) := by
            obtain ⟨q, rfl⟩ : ∃ q, n = q + 1 := ⟨n - 1, by omega⟩
            rw [List.replicate_succ', ← List.append_assoc, List.getLast?_concat]
          rw [if_pos (by omega), hlast] at h2
          refine ⟨(n, ((i : Nat) : Int)) :: rs, by simp [h1], ⟨by simp only; omega, by simp only; omega, by simp only; omega, ?_, h2⟩, ?_, h4, by omega, h6, ?_⟩
          · intro hp
            split at hp
            · rename_i hk
              exact hbad (.inr (.inr ⟨hk, hp⟩))
            · cases hp
          · rw [h3]; simp [expand]
          · rw [encRs_cons, toB_append, o3, h7, show a' - a = (a1 - a) + (a' - a1) by omega, List.take_add, List.drop_drop, show a + (a1 - a) = a1 by omega]

theorem good_legal : ∀ {p : Option Int} {rs : List (Nat × Int)}, Good p rs → ∀ x ∈ expand rs, 0 ≤ x ∧ x < 64
  | _, [], _, x, hx => by simp [expand] at hx
  | _, q :: r, h, x, hx => by
    simp only [expand, List.mem_append, List.mem_replicate] at hx
    rcases hx with ⟨_, rfl⟩ | hx
    · exact ⟨h.2.1, h.2.2.1⟩
    · exact good_legal h.2.2.2.2 x hx

theorem unpv_one {S : List UInt8} {most : Nat} {o : List Int} (h : unpv S most = (o, 0)) : (∀ x ∈ o, 0 ≤ x ∧ x < 64) ∧ o.length ≤ most ∧ toB (packB o) = S := by
  unfold unpv at h
  split at h
  · rename_i h1
    simp only [Prod.mk.injEq] at h
    exact absurd h.2 h1
  · rename_i h1
    have h1 : (readv S 0 0).2.1 = 0 := Decidable.not_not.1 h1
    obtain ⟨_, _, r3, r4, r5⟩ := readv_one h1
    split at h
    · simp at h
    · rename_i h2
      rcases hu : unpL S most (readv S 0 0).2.2 0 (readv S 0 0).1 [] with ⟨o', a'⟩ | e
      · rw [hu] at h
        simp only at h
        split at h
        · rename_i hd
          simp only [Prod.mk.injEq] at h
          obtain ⟨rfl, _⟩ := h
          obtain ⟨rs, u1, u2, u3, u4, u5, u6, u7⟩ := unpL_one _ _ _ _ r4 (by simp) hu
          have hg : Good none rs := by simpa using u2
          rw [List.nil_append] at u3
          have hr : rle o' = rs := by rw [u3]; exact rle_expand hg
          have ha : a' = S.length := by
            have := congrArg List.length hd
            simp at this; omega
          refine ⟨by rw [u3]; exact good_legal hg, u4, ?_⟩
          rw [packB, toB_append, hr, u1, u7]
          show bt (vb 9 (readv S 0 0).2.2) ++ _ = S
          rw [r5, ha, List.drop_zero, Nat.sub_zero]
          conv => rhs; rw [← List.take_append_drop (readv S 0 0).1 S]
          congr 1
          exact List.take_of_length_le (by simp)
        · simp at h
      · rw [hu] at h
        simp only [Prod.mk.injEq] at h
        exact absurd h.2 (unpL_ne _ _ _ _ hu)

theorem unpL_short {S : List UInt8} {most : Nat} {o : List Int} {a' : Nat} : ∀ (r k a : Nat) (out : List Int), out.length ≤ most → unpL S most r k a out = .inl (o, a') → o.length ≤ most
  | 0, k, a, out, ho, h => by
    simp only [unpL, Sum.inl.injEq, Prod.mk.injEq] at h
    obtain ⟨rfl, _⟩ := h
    exact ho
  | r + 1, k, a, out, ho, h => by
    simp only [unpL] at h
    split at h
    · cases h
    · split at h
      · cases h
      · split at h
        · cases h
        · rename_i hlong
          exact unpL_short r _ _ _ (by simp; omega) h
theorem unpv_short {S : List UInt8} {most n : Nat} (hm : most ≤ n) : (unpv S most).1.length ≤ n := by
  unfold unpv
  split
  · simp
  · split
    · simp
    · split
      · simp
      · rename_i o a hu
        have := unpL_short _ _ _ _ (by simp) hu
        split
        · simp only; omega
        · simp

/-! ### Small things -/
theorem same_loop {l : List Int} (hl : l.length ≤ 100000) : ∀ (m i : Nat), l.length - i < m → i ≤ l.length → m_hindcastref06_Same_L14 F l l m (i : Int) = some (.inl false)
  | 0, i, hm, _ => by omega
  | m + 1, i, hm, hi => by
    rw [m_hindcastref06_Same_L14.eq_2]
    by_cases h1 : i < l.length
    · have hx : l[i]? = some l[i] := List.getElem?_eq_getElem h1
      have hw : IntKind.wrap .i64 ((i : Int) + 1) = ((i + 1 : Nat) : Int) := by rw [wr_i64 ⟨by omega, by omega⟩]; omega
      have ih := same_loop hl m (i + 1) (by omega) (by omega)
      simp only [decide_eq_true (show (i : Int) < (l.length : Int) by omega), cond_true, getI_nat, hx, Option.bind_some, bne_self_eq_false, cond_false, hw, ih]
    · simp only [decide_eq_false (show ¬ (i : Int) < (l.length : Int) by omega), cond_false]
theorem same_of {l : List Int} (hl : l.length ≤ 100000) (hF : l.length < F) : m_hindcastref06_Same F l l = some true := by
  have h : m_hindcastref06_Same_L14 F l l F 0 = some (.inl false) := same_loop (F := F) hl F 0 (by omega) (by omega)
  simp only [m_hindcastref06_Same, bne_self_eq_false, cond_false, h, Option.bind_some, orE_l]

end Go.Proofs.Ytolmilcdhphnhaa
