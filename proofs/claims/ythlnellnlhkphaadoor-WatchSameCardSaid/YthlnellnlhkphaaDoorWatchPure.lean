/-
  What a watch does, in plain terms: its entries stand by their frames, at most 8 of them.
-/
import Derived.Test.YthlnellnlhkphaaDoorPure
import Derived.Test.YthlnellnlhkphaaDoorMod
namespace Go.Proofs.YthlnellnlhkphaaDoor
open Go.Proofs.YthlnellnlhkphaaDoor.Eng Go.RowKit Go.ChangeShapes Go.WideShapes Go.ChangeAt
set_option linter.unusedSimpArgs false
set_option linter.unusedVariables false
set_option maxHeartbeats 2000000
set_option maxRecDepth 20000

variable {F : Nat}

theorem w_or (a b : Bool) : cond a (some true) (some b) = some (a || b) := by cases a <;> rfl
theorem w_and (a b : Bool) : cond a (some b) (some false) = some (a && b) := by cases a <;> rfl

theorem w_fin (r : Int) (l : List T_watch_entry) (b : Bool) : cond b (some (T_watch_Watch.mk r l b, (14 : Int))) (some (T_watch_Watch.mk r l b, (0 : Int))) = some (T_watch_Watch.mk r l b, if b = true then 14 else 0) := by cases b <;> rfl

/-- By frames. -/
def Srt (l : List T_watch_entry) : Prop := l.Pairwise (fun a b => a.f < b.f)
/-- How many stand ahead of a frame. -/
def pos : List T_watch_entry → Int → Nat
  | [], _ => 0
  | x :: l, f => if x.f < f then pos l f + 1 else 0
def has (l : List T_watch_entry) (f : Int) : Bool := match l[pos l f]? with | some x => x.f == f | none => false

theorem pos_le : ∀ (l : List T_watch_entry) (f : Int), pos l f ≤ l.length
  | [], _ => Nat.le_refl _
  | x :: l, f => by
    unfold pos
    have := pos_le l f
    split <;> simp <;> omega
theorem pos_iff : ∀ {l : List T_watch_entry} (_ : Srt l) {f : Int} {k : Nat} {x : T_watch_entry}, l[k]? = some x → (x.f < f ↔ k < pos l f)
  | [], _, f, k, x, hx => by simp at hx
  | y :: l, hs, f, k, x, hx => by
    have hs' := List.pairwise_cons.1 hs
    unfold pos
    cases k with
    | zero =>
      obtain rfl : y = x := by simpa using hx
      by_cases h : y.f < f
      · rw [if_pos h]; exact ⟨fun _ => Nat.succ_pos _, fun _ => h⟩
      · rw [if_neg h]; exact ⟨fun h' => absurd h' h, fun h' => by omega⟩
    | succ k =>
      have hx' : l[k]? = some x := by simpa using hx
      have hm := hs'.1 x (List.mem_of_getElem? hx')
      have ih := pos_iff hs'.2 (f := f) hx'
      by_cases h : y.f < f
      · rw [if_pos h, ih]; omega
      · rw [if_neg h]; constructor
        · intro h'; omega
        · intro h'; omega

theorem at1_of (x : T_watch_entry) (f : Int) : m_watch_Watch_at_1 F x f = some (if x.f < f then -1 else if f < x.f then 1 else 0) := by
  unfold m_watch_Watch_at_1 m_cmp_Compare_uint64 m_cmp_isNaN_uint64
  simp only [Option.bind_some, bne_self_eq_false, cond_false]
  by_cases h1 : x.f < f
  · simp [h1]
  · by_cases h2 : f < x.f
    · simp [h1, h2]
    · simp [h1, h2]

theorem bs_loop {l : List T_watch_entry} {f : Int} (hs : Srt l) (hl : l.length ≤ 100) : ∀ (m i j : Nat), j - i < m → i ≤ pos l f → pos l f ≤ j → j ≤ l.length →
    m_slices_BinarySearchFunc___watch_entry_watch_entry_uint64_f2_watch_Watch_at_1_L8 F l f m (i : Int) (j : Int) = some (pos l f : Int)
  | 0, i, j, h, _, _, _ => by omega
  | m + 1, i, j, h, h1, h2, h3 => by
    rw [m_slices_BinarySearchFunc___watch_entry_watch_entry_uint64_f2_watch_Watch_at_1_L8.eq_2]
    by_cases hij : i < j
    · have w1 : IntKind.wrap .i64 ((i : Int) + (j : Int)) = ((i + j : Nat) : Int) := by rw [wr_i64 ⟨by omega, by omega⟩]; omega
      have w2 : IntKind.wrap .u64 ((i + j : Nat) : Int) = ((i + j : Nat) : Int) := wr_u64 ⟨by omega, by omega⟩
      have w3 : ((i + j : Nat) : Int) / 2 ^ (min 1 (IntKind.bits .u64)) = (((i + j) / 2 : Nat) : Int) := by
        show ((i + j : Nat) : Int) / 2 = _
        omega
      have w4 : IntKind.wrap .i64 (((i + j) / 2 : Nat) : Int) = (((i + j) / 2 : Nat) : Int) := wr_i64 ⟨by omega, by omega⟩
      have w5 : IntKind.wrap .i64 ((((i + j) / 2 : Nat) : Int) + 1) = (((i + j) / 2 + 1 : Nat) : Int) := by rw [wr_i64 ⟨by omega, by omega⟩]; omega
      have hx : l[(i + j) / 2]? = some (l[(i + j) / 2]'(by omega)) := List.getElem?_eq_getElem _
      rw [decide_eq_true (show (i : Int) < (j : Int) by omega), cond_true]
      simp only [w1, w2, w3, w4, w5, getI_nat, hx, Option.bind_some, at1_of]
      have hp := pos_iff hs (f := f) hx
      generalize l[(i + j) / 2] = x at hx hp
      by_cases hc : x.f < f
      · rw [if_pos hc, show decide ((-1 : Int) < 0) = true from rfl, cond_true]
        exact bs_loop hs hl m _ _ (by omega) (by have := hp.1 hc; omega) h2 h3
      · have hn : decide ((if x.f < f then (-1 : Int) else if f < x.f then 1 else 0) < 0) = false := by
          rw [if_neg hc]
          split <;> rfl
        rw [hn, cond_false]
        have : ¬ ((i + j) / 2 < pos l f) := fun h' => hc (hp.2 h')
        exact bs_loop hs hl m _ _ (by omega) h1 (by omega) (by omega)
    · rw [decide_eq_false (show ¬ (i : Int) < (j : Int) by omega), cond_false, show i = pos l f by omega]

theorem bs_of {l : List T_watch_entry} {f : Int} (hs : Srt l) (hl : l.length ≤ 100) (hF : 110 ≤ F) : m_slices_BinarySearchFunc___watch_entry_watch_entry_uint64_f2_watch_Watch_at_1 F l f = some ((pos l f : Int), has l f) := by
  unfold m_slices_BinarySearchFunc___watch_entry_watch_entry_uint64_f2_watch_Watch_at_1
  have h := bs_loop (F := F) (f := f) hs hl F 0 l.length (by omega) (by omega) (pos_le l f) (Nat.le_refl _)
  rw [show ((0 : Nat) : Int) = 0 from rfl] at h
  rw [h]
  simp only [Option.bind_some, getI_nat]
  have hp := pos_le l f
  by_cases hlt : pos l f < l.length
  · have hx : l[pos l f]? = some (l[pos l f]'hlt) := List.getElem?_eq_getElem _
    have hn : ¬ (l[pos l f]'hlt).f < f := fun h' => Nat.lt_irrefl _ ((pos_iff hs hx).1 h')
    rw [decide_eq_true (show (pos l f : Int) < (l.length : Int) by omega), cond_true]
    unfold has
    simp only [hx, Option.bind_some, at1_of, if_neg hn]
    generalize l[pos l f] = x at hn
    by_cases hc : f < x.f
    · rw [if_pos hc]
      have : (x.f == f) = false := by simp; omega
      rw [this]; rfl
    · have : x.f = f := by omega
      rw [if_neg hc]; simp [this]
  · rw [decide_eq_false (show ¬ (pos l f : Int) < (l.length : Int) by omega), cond_false]
    unfold has
    rw [List.getElem?_eq_none (by omega)]
    rfl

def newE (f : Int) : T_watch_entry := ⟨f, ⟨0, false⟩, ⟨0, false⟩⟩
def insE (l : List T_watch_entry) (f : Int) : List T_watch_entry := l.take (pos l f) ++ [newE f] ++ l.drop (pos l f)
/-- The entries with one of a frame, and where that stands. -/
def atv (l : List T_watch_entry) (f : Int) : Option (List T_watch_entry × Nat) :=
  if has l f then some (l, pos l f) else if l.length < 8 then some (insE l f, pos l f) else if pos l f = 0 then none else some ((insE l f).drop 1, pos l f - 1)

theorem insE_length (l : List T_watch_entry) (f : Int) : (insE l f).length = l.length + 1 := by
  have := pos_le l f
  simp [insE]; omega
theorem insE_at (l : List T_watch_entry) (f : Int) : (insE l f)[pos l f]? = some (newE f) := by
  have := pos_le l f
  unfold insE
  rw [List.append_assoc, List.getElem?_append_right (by simp; omega)]
  simp [Nat.min_eq_left this]

theorem has_at {l : List T_watch_entry} {f : Int} (h : has l f = true) : ∃ x, l[pos l f]? = some x ∧ x.f = f := by
  unfold has at h
  split at h
  · rename_i x hx
    exact ⟨x, hx, by simpa using h⟩
  · cases h
theorem atv_get {l l' : List T_watch_entry} {f : Int} {i : Nat} (h : atv l f = some (l', i)) : ∃ x, l'[i]? = some x ∧ x.f = f := by
  unfold atv at h
  split at h
  · rename_i hh
    simp only [Option.some.injEq, Prod.mk.injEq] at h
    obtain ⟨rfl, rfl⟩ := h
    exact has_at hh
  · split at h
    · simp only [Option.some.injEq, Prod.mk.injEq] at h
      obtain ⟨rfl, rfl⟩ := h
      exact ⟨_, insE_at l f, rfl⟩
    · split at h
      · cases h
      · simp only [Option.some.injEq, Prod.mk.injEq] at h
        obtain ⟨rfl, rfl⟩ := h
        rename_i hp
        refine ⟨newE f, ?_, rfl⟩
        rw [List.getElem?_drop, show 1 + (pos l f - 1) = pos l f by omega, insE_at]

theorem at_none {w : T_watch_Watch} (hs : Srt w.l) (hl : w.l.length ≤ 8) (hF : 110 ≤ F) {f : Int} (ha : atv w.l f = none) : m_watch_Watch_at F w f = some (w, none) := by
  unfold m_watch_Watch_at
  unfold atv at ha
  simp only [bs_of hs (show w.l.length ≤ 100 by omega) hF, Option.bind_some]
  split at ha
  · cases ha
  · rename_i hh
    rw [Bool.not_eq_true] at hh
    split at ha
    · cases ha
    · rename_i h8
      split at ha
      · rename_i h0
        rw [hh, decide_eq_false (show ¬ (w.l.length : Int) < 8 by omega), h0]
        rfl
      · cases ha
theorem at_some {w : T_watch_Watch} (hs : Srt w.l) (hl : w.l.length ≤ 8) (hF : 110 ≤ F) {f : Int} {l' : List T_watch_entry} {i : Nat} (ha : atv w.l f = some (l', i)) : m_watch_Watch_at F w f = some (⟨w.rows, l', w.clashed⟩, some (i : Int)) := by
  have hp := pos_le w.l f
  obtain ⟨x, hx, _⟩ := atv_get ha
  have hi : insM F w.l (pos w.l f : Int) [(T_watch_entry.mk f (T_watch_sum.mk (0 : Int) false) (T_watch_sum.mk (0 : Int) false))] = some (insE w.l f) := by
    unfold insM
    rw [if_pos ⟨by omega, by omega, rfl, by omega⟩]
    rfl
  unfold m_watch_Watch_at
  unfold atv at ha
  simp only [bs_of hs (show w.l.length ≤ 100 by omega) hF, Option.bind_some]
  split at ha
  · rename_i hh
    simp only [Option.some.injEq, Prod.mk.injEq] at ha
    obtain ⟨rfl, rfl⟩ := ha
    simp only [hh, cond_true, getI_nat, hx, Option.bind_some]
  · rename_i hh
    rw [Bool.not_eq_true] at hh
    split at ha
    · rename_i h8
      simp only [Option.some.injEq, Prod.mk.injEq] at ha
      obtain ⟨rfl, rfl⟩ := ha
      rw [hh, decide_eq_true (show (w.l.length : Int) < 8 by omega)]
      simp only [cond_true, cond_false, hi, Option.bind_some, getI_nat, hx]
    · rename_i h8
      split at ha
      · cases ha
      · rename_i h0
        simp only [Option.some.injEq, Prod.mk.injEq] at ha
        obtain ⟨rfl, rfl⟩ := ha
        have e0 : ((pos w.l f : Int) == 0) = false := by simp; omega
        have hd : delM F (insE w.l f) 0 1 = some ((insE w.l f).drop 1) := by
          have := insE_length w.l f
          unfold delM
          rw [if_pos ⟨rfl, rfl, by omega, by omega⟩]
        have w1 : IntKind.wrap .i64 ((pos w.l f : Int) - 1) = ((pos w.l f - 1 : Nat) : Int) := by rw [wr_i64 ⟨by omega, by omega⟩]; omega
        rw [hh, decide_eq_false (show ¬ (w.l.length : Int) < 8 by omega), e0]
        simp only [cond_false, hi, hd, Option.bind_some, w1, getI_nat, hx]

/-- A side's digest, and the entry with it. -/
def sideE (s : Bool) (x : T_watch_entry) : T_watch_sum := if s then x.other else x.own
def putE (s : Bool) (x : T_watch_entry) (n : Int) : T_watch_entry := if (sideE s x).is_ then x else if s then ⟨x.f, x.own, ⟨n, true⟩⟩ else ⟨x.f, ⟨n, true⟩, x.other⟩
def odd (x : T_watch_entry) : Bool := x.own.is_ && x.other.is_ && x.own.n != x.other.n
def toldv (s : Bool) (w : T_watch_Watch) (f n : Int) : T_watch_Watch × Int :=
  if f.tmod w.rows ≠ 0 then (w, 2) else
  match atv w.l f with
  | none => (w, if w.clashed then 14 else 0)
  | some (l', i) =>
    match l'[i]? with
    | none => (w, 0)
    | some x =>
      let c := (w.clashed || ((sideE s x).is_ && (sideE s x).n != n)) || odd (putE s x n)
      (⟨w.rows, l'.set i (putE s x n), c⟩, if c then 14 else 0)

structure WOk (w : T_watch_Watch) : Prop where
  r0 : 0 < w.rows
  srt : Srt w.l
  ln : w.l.length ≤ 8

theorem set_eq_self {α : Type} {l : List α} {i : Nat} {x : α} (h : l[i]? = some x) : l.set i x = l := by
  apply List.ext_getElem?
  intro k
  rw [List.getElem?_set]
  by_cases hk : i = k
  · subst hk; rw [if_pos rfl]; simp [(List.getElem?_eq_some_iff.1 h).1, (List.getElem?_eq_some_iff.1 h).2]
  · rw [if_neg hk]

theorem told_own {w : T_watch_Watch} (H : WOk w) (hF : 110 ≤ F) (f n : Int) : m_watch_Watch_told_f3_watch_ownSide F w f n = some (toldv false w f n) := by
  have hr := H.r0
  have hl := H.ln
  have hp := pos_le w.l f
  have hr0 : ¬ w.rows = 0 := by omega
  unfold m_watch_Watch_told_f3_watch_ownSide m_watch_Watch_is toldv remI
  simp only [decide_eq_true hr, Option.bind_some, Bool.not_true, cond_false, if_neg hr0]
  by_cases hm : f.tmod w.rows = 0
  · rw [hm]
    simp only [bne_self_eq_false, cond_false, ne_eq, not_true_eq_false, if_false]
    have key : ∀ (l' : List T_watch_entry) (i : Nat) (x : T_watch_entry), l'[i]? = some x → ∀ (v : Int), v = (i : Int) →
        (Option.bind (cond w.clashed (some true) ((Option.bind (cond x.own.is_ (some (x.own.n != n)) (some false)) fun v48 => some v48))) fun v49 => (cond (!x.own.is_)
          (Option.bind (cond v49 (some true) ((Option.bind (cond x.other.is_ (some (n != x.other.n)) (some false)) fun v91 => some v91))) fun v92 => (cond v92 (some (T_watch_Watch.mk w.rows (setI l' v (T_watch_entry.mk x.f (T_watch_sum.mk n true) x.other)) v92, (14 : Int))) (some (T_watch_Watch.mk w.rows (setI l' v (T_watch_entry.mk x.f (T_watch_sum.mk n true) x.other)) v92, (0 : Int)))))
          (Option.bind (cond v49 (some true) ((Option.bind (cond x.own.is_ (some x.other.is_) (some false)) fun v78 => (Option.bind (cond v78 (some (x.own.n != x.other.n)) (some false)) fun v91 => some v91)))) fun v92 => (cond v92 (some (T_watch_Watch.mk w.rows l' v92, (14 : Int))) (some (T_watch_Watch.mk w.rows l' v92, (0 : Int)))))))
        = some (T_watch_Watch.mk w.rows (l'.set i (putE false x n)) ((w.clashed || ((sideE false x).is_ && (sideE false x).n != n)) || odd (putE false x n)), if (w.clashed || ((sideE false x).is_ && (sideE false x).n != n)) || odd (putE false x n) then 14 else 0) := by
      intro l' i x hx v hv
      subst hv
      have hs : ∀ y : T_watch_entry, setI l' (i : Int) y = l'.set i y := fun y => rfl
      simp only [w_or, w_and, Option.bind_some, hs]
      unfold putE sideE odd
      simp only [Bool.false_eq_true, if_false]
      cases ho : x.own.is_ <;> cases hc : w.clashed <;> cases ht : x.other.is_ <;> simp only [ho, ht, Bool.true_and, Bool.false_and, Bool.and_true, Bool.and_false, Bool.true_or, Bool.or_true, Bool.false_or, Bool.or_false, Bool.not_true, Bool.not_false, cond_true, cond_false, Bool.false_eq_true, if_true, if_false, set_eq_self hx] <;> first | rfl | exact w_fin _ _ _
    cases ha : atv w.l f with
    | none =>
      rw [at_none H.srt hl hF ha]
      simp only [Option.bind_some, poE]
      cases w.clashed <;> rfl
    | some q =>
      obtain ⟨l', i⟩ := q
      obtain ⟨x, hx, _⟩ := atv_get ha
      rw [at_some H.srt hl hF ha]
      simp only [Option.bind_some, poE, getI_nat, hx]
      exact key l' i x hx _ rfl
  · have : (f.tmod w.rows != 0) = true := by simpa using hm
    rw [this]
    simp only [cond_true, ne_eq, hm, not_false_eq_true, if_true]

theorem told_other {w : T_watch_Watch} (H : WOk w) (hF : 110 ≤ F) (f n : Int) : m_watch_Watch_told_f3_watch_otherSide F w f n = some (toldv true w f n) := by
  have hr := H.r0
  have hl := H.ln
  have hp := pos_le w.l f
  have hr0 : ¬ w.rows = 0 := by omega
  unfold m_watch_Watch_told_f3_watch_otherSide m_watch_Watch_is toldv remI
  simp only [decide_eq_true hr, Option.bind_some, Bool.not_true, cond_false, if_neg hr0]
  by_cases hm : f.tmod w.rows = 0
  · rw [hm]
    simp only [bne_self_eq_false, cond_false, ne_eq, not_true_eq_false, if_false]
    have key : ∀ (l' : List T_watch_entry) (i : Nat) (x : T_watch_entry), l'[i]? = some x → ∀ (v : Int), v = (i : Int) →
        (Option.bind (cond w.clashed (some true) ((Option.bind (cond x.other.is_ (some (x.other.n != n)) (some false)) fun v48 => some v48))) fun v49 => (cond (!x.other.is_)
          (Option.bind (cond v49 (some true) ((Option.bind (cond x.own.is_ (some true) (some false)) fun v78 => (Option.bind (cond v78 (some (x.own.n != n)) (some false)) fun v91 => some v91)))) fun v92 => (cond v92 (some (T_watch_Watch.mk w.rows (setI l' v (T_watch_entry.mk x.f x.own (T_watch_sum.mk n true))) v92, (14 : Int))) (some (T_watch_Watch.mk w.rows (setI l' v (T_watch_entry.mk x.f x.own (T_watch_sum.mk n true))) v92, (0 : Int)))))
          (Option.bind (cond v49 (some true) ((Option.bind (cond x.own.is_ (some x.other.is_) (some false)) fun v78 => (Option.bind (cond v78 (some (x.own.n != x.other.n)) (some false)) fun v91 => some v91)))) fun v92 => (cond v92 (some (T_watch_Watch.mk w.rows l' v92, (14 : Int))) (some (T_watch_Watch.mk w.rows l' v92, (0 : Int)))))))
        = some (T_watch_Watch.mk w.rows (l'.set i (putE true x n)) ((w.clashed || ((sideE true x).is_ && (sideE true x).n != n)) || odd (putE true x n)), if (w.clashed || ((sideE true x).is_ && (sideE true x).n != n)) || odd (putE true x n) then 14 else 0) := by
      intro l' i x hx v hv
      subst hv
      have hs : ∀ y : T_watch_entry, setI l' (i : Int) y = l'.set i y := fun y => rfl
      simp only [w_or, w_and, Option.bind_some, hs]
      unfold putE sideE odd
      simp only [if_true]
      cases ho : x.own.is_ <;> cases hc : w.clashed <;> cases ht : x.other.is_ <;> simp only [ho, ht, Bool.true_and, Bool.false_and, Bool.and_true, Bool.and_false, Bool.true_or, Bool.or_true, Bool.false_or, Bool.or_false, Bool.not_true, Bool.not_false, cond_true, cond_false, Bool.false_eq_true, if_true, if_false, set_eq_self hx] <;> first | rfl | exact w_fin _ _ _
    cases ha : atv w.l f with
    | none =>
      rw [at_none H.srt hl hF ha]
      simp only [Option.bind_some, poE]
      cases w.clashed <;> rfl
    | some q =>
      obtain ⟨l', i⟩ := q
      obtain ⟨x, hx, _⟩ := atv_get ha
      rw [at_some H.srt hl hF ha]
      simp only [Option.bind_some, poE, getI_nat, hx]
      exact key l' i x hx _ rfl
  · have : (f.tmod w.rows != 0) = true := by simpa using hm
    rw [this]
    simp only [cond_true, ne_eq, hm, not_false_eq_true, if_true]

theorem own_of {w : T_watch_Watch} (H : WOk w) (hF : 110 ≤ F) (f n : Int) : m_watch_Watch_Own F w f n = some (toldv false w f n) := by
  unfold m_watch_Watch_Own
  rw [told_own H hF]
  rfl
theorem other_of {w : T_watch_Watch} (H : WOk w) (hF : 110 ≤ F) (f n : Int) : m_watch_Watch_Other F w f n = some (toldv true w f n) := by
  unfold m_watch_Watch_Other
  rw [told_other H hF]
  rfl

/-! ### What stays -/
theorem srt_ins {l : List T_watch_entry} {f : Int} (hs : Srt l) (hh : has l f = false) : Srt (insE l f) := by
  have hp := pos_le l f
  have h1 : ∀ x ∈ l.take (pos l f), x.f < f := by
    intro x hx
    obtain ⟨k, hk⟩ := List.getElem?_of_mem hx
    rw [List.getElem?_take] at hk
    split at hk
    · exact (pos_iff hs hk).2 (by assumption)
    · cases hk
  have h2 : ∀ x ∈ l.drop (pos l f), f < x.f := by
    intro x hx
    obtain ⟨k, hk⟩ := List.getElem?_of_mem hx
    rw [List.getElem?_drop] at hk
    have hn : ¬ x.f < f := fun h => by have := (pos_iff hs hk).1 h; omega
    have hne : x.f ≠ f := by
      intro he
      cases k with
      | zero =>
        unfold has at hh
        simp only [Nat.add_zero] at hk
        rw [hk] at hh
        simp [he] at hh
      | succ k =>
        have hlt := (List.getElem?_eq_some_iff.1 hk).1
        have hy : l[pos l f]? = some (l[pos l f]'(by omega)) := List.getElem?_eq_getElem _
        have h3 : ¬ (l[pos l f]'(by omega)).f < f := fun h => Nat.lt_irrefl _ ((pos_iff hs hy).1 h)
        have h4 : (l[pos l f]'(by omega)).f < x.f := by
          have := (List.pairwise_iff_getElem.1 hs) (pos l f) (pos l f + (k + 1)) (by omega) hlt (by omega)
          rw [(List.getElem?_eq_some_iff.1 hk).2] at this
          exact this
        omega
    omega
  unfold insE Srt
  rw [List.append_assoc, List.pairwise_append]
  refine ⟨hs.sublist (List.take_sublist _ _), ?_, ?_⟩
  · rw [List.singleton_append, List.pairwise_cons]
    exact ⟨fun x hx => h2 x hx, hs.sublist (List.drop_sublist _ _)⟩
  · intro a ha b hb
    rw [List.singleton_append, List.mem_cons] at hb
    rcases hb with rfl | hb
    · exact h1 a ha
    · have := h1 a ha
      have := h2 b hb
      omega
theorem srt_atv {l l' : List T_watch_entry} {f : Int} {i : Nat} (hs : Srt l) (hl : l.length ≤ 8) (h : atv l f = some (l', i)) : Srt l' ∧ l'.length ≤ 8 := by
  have hil := insE_length l f
  unfold atv at h
  split at h
  · simp only [Option.some.injEq, Prod.mk.injEq] at h
    obtain ⟨rfl, rfl⟩ := h
    exact ⟨hs, hl⟩
  · rename_i hh
    rw [Bool.not_eq_true] at hh
    split at h
    · simp only [Option.some.injEq, Prod.mk.injEq] at h
      obtain ⟨rfl, rfl⟩ := h
      exact ⟨srt_ins hs hh, by omega⟩
    · split at h
      · cases h
      · simp only [Option.some.injEq, Prod.mk.injEq] at h
        obtain ⟨rfl, rfl⟩ := h
        exact ⟨(srt_ins hs hh).sublist (List.drop_sublist _ _), by simp; omega⟩
theorem putE_f (s : Bool) (x : T_watch_entry) (n : Int) : (putE s x n).f = x.f := by
  unfold putE
  split
  · rfl
  · split <;> rfl
theorem srt_set {l : List T_watch_entry} {i : Nat} {x y : T_watch_entry} (hs : Srt l) (hx : l[i]? = some x) (hf : y.f = x.f) : Srt (l.set i y) := by
  unfold Srt at *
  rw [List.pairwise_iff_getElem] at *
  intro a b ha hb hab
  have h1 : ∀ (c : Nat) (hc : c < (l.set i y).length), (l.set i y)[c].f = (l[c]'(by simpa using hc)).f := by
    intro c hc
    rw [List.getElem_set]
    split
    · rename_i he; subst he
      rw [hf, (List.getElem?_eq_some_iff.1 hx).2]
    · rfl
  rw [h1 a ha, h1 b hb]
  exact hs a b (by simpa using ha) (by simpa using hb) hab
theorem toldv_ok {s : Bool} {w : T_watch_Watch} (H : WOk w) (f n : Int) : WOk (toldv s w f n).1 := by
  unfold toldv
  split
  · exact H
  · split
    · exact H
    · rename_i l' i ha
      obtain ⟨h1, h2⟩ := srt_atv H.srt H.ln ha
      split
      · exact H
      · rename_i x hx
        exact ⟨H.r0, srt_set h1 hx (putE_f s x n), by simpa using h2⟩

end Go.Proofs.YthlnellnlhkphaaDoor
