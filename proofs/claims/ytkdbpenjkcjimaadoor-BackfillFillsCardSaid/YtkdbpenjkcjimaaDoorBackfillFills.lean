/-
  Chapter 28: the law BackfillFills: what the one plans, the other one takes.
-/
import Derived.Test.YtkdbpenjkcjimaaDoorRollPure
import Derived.Test.YtkdbpenjkcjimaaDoorFoldHist
import Derived.Test.YtkdbpenjkcjimaaDoorStateRow
import Derived.Test.YtkdbpenjkcjimaaDoorCards
import Derived.Test.YtkdbpenjkcjimaaDoorTie
import Derived.Test.YtkdbpenjkcjimaaDoorLaid
import Derived.Test.YtkdbpenjkcjimaaDoorWalk
import Derived.Deep.DeepHandedRow
namespace Go.Proofs.YtkdbpenjkcjimaaDoor
open Go.Proofs.YtkdbpenjkcjimaaDoor.Eng Go.RowKit Go.ChangeShapes Go.WideShapes Go.ChangeAt
set_option linter.unusedSimpArgs false
set_option linter.unusedVariables false
set_option maxHeartbeats 2000000
set_option maxRecDepth 20000

variable {F : Nat}

def atg (l : List Int) (f : Nat) : Int := if f < l.length then Int.tmod (l.getD f 0) 64 else 0
theorem at_of (l : List Int) (f : Nat) : m_hindcastlaw28_at F l (f : Int) = some (atg l f) := by
  unfold m_hindcastlaw28_at atg
  by_cases h : f < l.length
  · rw [if_pos h, decide_eq_true (show (f : Int) < (l.length : Int) by omega), cond_true, getI_nat, List.getElem?_eq_getElem h, List.getD_eq_getElem?_getD, List.getElem?_eq_getElem h]
    rfl
  · rw [if_neg h, decide_eq_false (show ¬ (f : Int) < (l.length : Int) by omega), cond_false]
theorem atg_lt (l : List Int) (f : Nat) : atg l f < 64 := by
  unfold atg
  split
  · exact Int.tmod_lt_of_pos _ (by omega)
  · omega
theorem addv_new {b k : Nat} {L : List Int} {p : Nat} {i : Int} (hi : i < 64) (hk : k ≤ L.length) (hp : p = b + L.length) (hu : p < 18446744073709551615) (h24 : L.length - k < 24) : addv b k L p i = (L ++ [i], 0) := by
  unfold addv
  rw [if_neg (by omega), if_neg (by omega), if_neg (by omega), if_neg (by omega), if_neg (by omega)]

theorem u64_n {j : Nat} (h : j ≤ 1000000) : IntKind.wrap .u64 (j : Int) = (j : Int) := wr_u64 ⟨by omega, by omega⟩
theorem i64_s {j : Nat} (h : j ≤ 1000000) : IntKind.wrap .i64 ((j : Int) + 1) = ((j + 1 : Nat) : Int) := by rw [wr_i64 ⟨by omega, by omega⟩]; omega

theorem i64_d {a b : Nat} (h : b ≤ a) (ha : a ≤ 1000000) : IntKind.wrap .i64 ((a : Int) - (b : Int)) = ((a - b : Nat) : Int) := by rw [wr_i64 ⟨by omega, by omega⟩]; omega

/-! ### The game -/
def mine (g : T_hindcastlaw28_Setup) (f : Nat) : Int := atg g.Mine f
def theirs (g : T_hindcastlaw28_Setup) (f : Nat) : Int := atg g.Theirs f
def plg (g : T_hindcastlaw28_Setup) : Int := Int.tmod g.Player 2
def tp (g : T_hindcastlaw28_Setup) (f : Nat) : Int × Int := pr (plg g) (mine g f) (theirs g f)
def thL (g : T_hindcastlaw28_Setup) (n : Nat) : List Int := (List.range n).map (theirs g)
def ownL (g : T_hindcastlaw28_Setup) (c n : Nat) : List Int := (List.range' c n).map (mine g)
def tps (g : T_hindcastlaw28_Setup) (c : Nat) : List (Int × Int) := (List.range c).map (tp g)
section
variable {g : T_hindcastlaw28_Setup}
theorem thL_length (n : Nat) : (thL g n).length = n := by simp [thL]
theorem thL_succ (n : Nat) : thL g (n + 1) = thL g n ++ [theirs g n] := by simp [thL, List.range_succ]
theorem tps_succ (n : Nat) : tps g (n + 1) = tps g n ++ [tp g n] := by simp [tps, List.range_succ]
theorem tps_length (n : Nat) : (tps g n).length = n := by simp [tps]
theorem ownL_length (c n : Nat) : (ownL g c n).length = n := by simp [ownL]
theorem ownL_app (c n : Nat) : ownL g c n ++ [mine g (c + n)] = ownL g c (n + 1) := by
  simp [ownL, List.range'_concat]
theorem ownL_cons (c n : Nat) : ownL g c (n + 1) = mine g c :: ownL g (c + 1) n := by
  simp [ownL, List.range'_succ]
theorem gs_thL {n f : Nat} : gs (thL g n) f = if f < n then theirs g f else if 0 < n then theirs g (n - 1) else 0 := by
  unfold gs
  rw [thL_length]
  by_cases h : f < n
  · rw [if_pos h, if_pos h, List.getD_eq_getElem?_getD]
    simp [thL, h]
  · rw [if_neg h, if_neg h]
    cases n with
    | zero => rfl
    | succ n => rw [thL_succ]; simp
theorem getD_thL {n f : Nat} (h : f < n) : (thL g n).getD f 0 = theirs g f := by
  rw [List.getD_eq_getElem?_getD]
  simp [thL, h]
theorem gpair_of (hp : plg g = 0 ∨ plg g = 1) (f : Nat) : m_hindcastlaw28_Setup_pair F g (f : Int) = some (tp g f) := by
  unfold m_hindcastlaw28_Setup_pair tp mine theirs
  have hq : Int.tmod g.Player 2 = plg g := rfl
  rw [hq]
  simp only [at_of, Option.bind_some]
  rcases hp with h | h <;> rw [h] <;> rfl
end
def slv (fr : Int) (L : List (Int × Int)) (p n : Int) : List (Int × Int) := if fr ≤ p then (L.drop (p - fr).toNat).take n.toNat else []

theorem slice_loop {h : T_fold_History} {fr mo : Int} {L : List (Int × Int)} (H : HI h fr mo L) {n : Int} (hn : n ≤ 9223372036854775807) : ∀ (m k i : Nat) (acc : List (Int × Int)), L.length - k < m → k ≤ L.length → acc.length ≤ k → i ≤ k →
    m_fold_History_Slice_L6 F h n m (fr + (k : Int)) acc (i : Int) = some (acc ++ (L.drop k).take (n - (i : Int)).toNat)
  | 0, k, i, acc, hm, _, _, _ => by omega
  | m + 1, k, i, acc, hm, hk, ha, hi => by
    have h0 := H.f0
    have h1 := H.m1
    have h2 := H.ln
    rw [m_fold_History_Slice_L6.eq_2]
    by_cases hc : (i : Int) < n
    · rw [decide_eq_true hc, cond_true, hat_of H (by omega)]
      by_cases hkl : k < L.length
      · have hx : L[k]? = some L[k] := List.getElem?_eq_getElem hkl
        have w1 : IntKind.wrap .u64 (fr + (k : Int) + 1) = fr + ((k + 1 : Nat) : Int) := by rw [wr_u64 ⟨by omega, by omega⟩]; omega
        have w2 : IntKind.wrap .i64 ((i : Int) + 1) = ((i + 1 : Nat) : Int) := by rw [wr_i64 ⟨by omega, by omega⟩]; omega
        rw [hatv_in hx]
        simp only [Option.bind_some, Bool.not_true, cond_false, w1, w2, appI_of (show acc.length + [L[k]].length ≤ 1073741824 by simp; omega)]
        rw [slice_loop H hn m (k + 1) (i + 1) _ (by omega) (by omega) (by simp; omega) (by omega), List.drop_eq_getElem_cons hkl,
          show (n - (i : Int)).toNat = (n - ((i + 1 : Nat) : Int)).toNat + 1 by omega, List.take_succ_cons, List.append_assoc]
        rfl
      · rw [hatv_out (by omega), List.drop_eq_nil_of_le (by omega)]
        simp
    · rw [decide_eq_false hc, cond_false, show (n - (i : Int)).toNat = 0 by omega]
      simp

theorem slice_of {h : T_fold_History} {fr mo : Int} {L : List (Int × Int)} (H : HI h fr mo L) {p n : Int} (hp : 0 ≤ p ∧ p ≤ 18446744073709551615) (hn : n ≤ 9223372036854775807) (hF : 300 ≤ F) : m_fold_History_Slice F h p n = some (slv fr L p n) := by
  have h1 := H.m1
  have h2 := H.ln
  unfold m_fold_History_Slice
  by_cases hc : fr ≤ p ∧ p < fr + (L.length : Int)
  · have e := slice_loop (F := F) H hn F (p - fr).toNat 0 [] (by omega) (by omega) (by simp) (by omega)
    rw [show fr + ((p - fr).toNat : Int) = p by omega] at e
    have e' : m_fold_History_Slice_L6 F h n F p [] 0 = _ := e
    rw [e']
    unfold slv
    rw [if_pos hc.1]
    simp
  · have e' : m_fold_History_Slice_L6 F h n F p [] 0 = some [] := by
      obtain ⟨f, rfl⟩ : ∃ f, F = f + 1 := ⟨F - 1, by omega⟩
      rw [m_fold_History_Slice_L6.eq_2]
      rw [hat_of H hp.1, hatv_out hc]
      cases decide ((0 : Int) < n) <;> rfl
    rw [e']
    unfold slv
    split
    · rw [List.drop_eq_nil_of_le (by omega)]; simp
    · rfl


section
variable {g : T_hindcastlaw28_Setup}
structure FI (g : T_hindcastlaw28_Setup) (x : T_rollback_Engine) (q : T_queue_Queue) (r : T_ring_Ring) (h : T_fold_History) (c t known : Nat) : Prop where
  ei : EI x q r 0 c (thL g known)
  pl : x.player = plg g
  w : x.window = 1 + g.Window % 12
  own : x.own = ownL g c (t - c)
  ct : c ≤ t
  hi : HI h 0 256 (tps g c)
variable {x : T_rollback_Engine} {q : T_queue_Queue} {r : T_ring_Ring} {h : T_fold_History} {c t known : Nat}
theorem FI.ck (H : FI g x q r h c t known) : c ≤ known := by have := H.ei.hk; rw [thL_length] at this; exact this
theorem FI.tw (H : FI g x q r h c t known) : ((t - c : Nat) : Int) ≤ 1 + g.Window % 12 := by have := H.ei.ow; rw [H.own, ownL_length, H.w] at this; exact this
theorem FI.ol (H : FI g x q r h c t known) : x.own.length = t - c := by rw [H.own, ownL_length]
theorem FI.fr (H : FI g x q r h c t known) : x.sure.Frame = (c : Int) := by rw [H.ei.fr, Nat.zero_add]

theorem fi_local (H : FI g x q r h c t known) (ht : ((t - c : Nat) : Int) < 1 + g.Window % 12) : ∃ x', m_rollback_Engine_Local F x q r (atg g.Mine t) = some (x', 0) ∧ FI g x' q r h c (t + 1) known := by
  have hct := H.ct
  obtain ⟨e1, H1⟩ := local_ok (F := F) H.ei (atg_lt g.Mine t) (by rw [H.ol, H.w]; exact ht)
  refine ⟨_, e1, H1, H.pl, H.w, ?_, by omega, H.hi⟩
  show x.own ++ [atg g.Mine t] = _
  have := ownL_app (g := g) c (t - c)
  rw [show c + (t - c) = t by omega] at this
  rw [H.own, show t + 1 - c = (t - c) + 1 by omega, ← this]
  rfl
theorem fi_remote (H : FI g x q r h c t known) (hF : 1010 ≤ F) (hk : known ≤ 300) {f : Nat} (hf : f ≤ known) (h24 : known - c < 24) : ∃ q' r', m_rollback_Engine_Remote F x q r (f : Int) (atg g.Theirs f) = some (q', r', 0) ∧ FI g x q' r' h c t (max known (f + 1)) := by
  have hck := H.ck
  obtain ⟨r3, e3, H3⟩ := remote_of (F := F) H.ei hF (by rw [thL_length]; omega) f (atg g.Theirs f)
  by_cases h1 : f = known
  · rw [addv_new (atg_lt _ _) H.ei.hk (by rw [thL_length]; omega) (by omega) (by rw [thL_length]; omega)] at e3 H3
    refine ⟨_, r3, e3, ?_⟩
    have he : thL g known ++ [atg g.Theirs f] = thL g (known + 1) := by rw [thL_succ, h1]; rfl
    rw [he] at H3 ⊢
    rw [show max known (f + 1) = known + 1 by omega]
    exact ⟨H3, H.pl, H.w, H.own, H.ct, H.hi⟩
  · have he : addv 0 c (thL g known) f (atg g.Theirs f) = (thL g known, 0) := by
      have h64 := atg_lt g.Theirs f
      unfold addv
      rw [if_neg (by omega), thL_length]
      by_cases h2 : f < 0 + c
      · rw [if_pos h2]
      · rw [if_neg h2, if_pos (by omega), if_neg (by rw [Nat.sub_zero, getD_thL (by omega)]; simp [theirs])]
    rw [he] at e3 H3
    rw [show max known (f + 1) = known by omega]
    exact ⟨_, r3, e3, H3, H.pl, H.w, H.own, H.ct, H.hi⟩
theorem tp_lt (f : Nat) : (tp g f).1 < 64 ∧ (tp g f).2 < 64 := pr_lt (atg_lt _ _) (atg_lt _ _)
theorem fi_add (H : HI h 0 256 (tps g c)) (hc : c < 256) : ∃ h', m_fold_History_Add F h (tp g c) = some (h', 0) ∧ HI h' 0 256 (tps g (c + 1)) := by
  obtain ⟨h', e, H'⟩ := add_good (F := F) H (tp_lt c) (by rw [tps_length]; omega)
  rw [tps_succ]
  exact ⟨h', e, H'⟩
theorem fi_confirm (H : FI g x q r h c t known) (hF : 1010 ≤ F) (h1 : c < t) (h2 : c < known) {f : Int} (hf : (c : Int) < f) : ∃ x' q' r', m_rollback_Engine_Confirm F x q r f = some (x', q', r', tp g c, true) ∧ ∀ h', HI h' 0 256 (tps g (c + 1)) → FI g x' q' r' h' (c + 1) t known := by
  have hoc : x.own = mine g c :: ownL g (c + 1) (t - (c + 1)) := by rw [H.own, show t - c = (t - (c + 1)) + 1 by omega, ownL_cons]
  obtain ⟨r4, e4, H4⟩ := confirm_yes (F := F) H.ei hF (f := f) hoc (by rw [thL_length]; omega) (by rw [H.fr]; exact hf)
  have hpr : pr x.player (mine g c) (gs (thL g known) c) = tp g c := by
    rw [gs_thL, if_pos h2, H.pl]
    rfl
  rw [hpr] at e4
  exact ⟨_, _, _, e4, fun h' hh => ⟨H4, H.pl, H.w, rfl, by omega, hh⟩⟩

/-! ### What stands at first -/
theorem fills_a (hF : 1010 ≤ F) (hp : plg g = 0 ∨ plg g = 1) {n : Nat} (hn : IntKind.wrap .i64 (Int.tmod g.Sure 60) = (n : Int)) (hn6 : n ≤ 60) : ∀ (m j : Nat) (x : T_rollback_Engine) (q : T_queue_Queue) (r : T_ring_Ring) (h : T_fold_History), n - j < m → j ≤ n → FI g x q r h j j j →
    ∃ x' q' r' h', m_hindcastlaw28_BackfillFills_L100012_3 F g m (j : Int) x.player x.window x.sure.Frame x.sure.Seed x.sure.Players x.sure.Shots x.sure.Score x.own q.first_ q.l q.last r.size r.places h =
      some (x'.player, x'.window, x'.sure.Frame, x'.sure.Seed, x'.sure.Players, x'.sure.Shots, x'.sure.Score, x'.own, q'.first_, q'.l, q'.last, r'.size, r'.places, h') ∧ FI g x' q' r' h' n n n
  | 0, j, x, q, r, h, hm, _, _ => by omega
  | m + 1, j, x, q, r, h, hm, hj, H => by
    rw [m_hindcastlaw28_BackfillFills_L100012_3.eq_2, hn]
    by_cases hlt : j < n
    · have hw := H.ei.w
      have hww := H.w
      obtain ⟨x1, e1, H1⟩ := fi_local (F := F) H (by rw [Nat.sub_self]; show (0 : Int) < _; omega)
      obtain ⟨q2, r2, e2, H2⟩ := fi_remote (F := F) H1 hF (by omega) (Nat.le_refl j) (by omega)
      rw [show max j (j + 1) = j + 1 by omega] at H2
      obtain ⟨x3, q3, r3, e3, H3⟩ := fi_confirm (F := F) H2 hF (by omega) (by omega) (f := ((j + 1 : Nat) : Int)) (by omega)
      obtain ⟨h4, e4, H4⟩ := fi_add (F := F) H.hi (by omega)
      obtain ⟨x', q', r', h', e5, R⟩ := fills_a hF hp hn hn6 m (j + 1) x3 q3 r3 h4 (by omega) hlt (H3 h4 H4)
      refine ⟨x', q', r', h', ?_, R⟩
      have e1' : m_rollback_Engine_Local F (T_rollback_Engine.mk x.player x.window (T_api_State.mk x.sure.Frame x.sure.Seed x.sure.Players x.sure.Shots x.sure.Score) x.own) (T_queue_Queue.mk q.first_ q.l q.last) (T_ring_Ring.mk r.size r.places) (atg g.Mine j) = _ := e1
      have e2' : m_rollback_Engine_Remote F x1 (T_queue_Queue.mk q.first_ q.l q.last) (T_ring_Ring.mk r.size r.places) (j : Int) (atg g.Theirs j) = _ := e2
      have ep : ∀ a, m_hindcastlaw28_Setup_pair F (T_hindcastlaw28_Setup.mk g.Seed g.Player g.Window g.Sure a (0 : Int) (0 : Int) g.Mine g.Theirs) (j : Int) = some (tp g j) := fun a => gpair_of (F := F) (g := T_hindcastlaw28_Setup.mk g.Seed g.Player g.Window g.Sure a (0 : Int) (0 : Int) g.Mine g.Theirs) hp j
      rw [decide_eq_true (show (j : Int) < (n : Int) by omega), cond_true]
      simp only [at_of, Option.bind_some, e1', u64_n (show j ≤ 1000000 by omega), e2', i64_s (show j ≤ 1000000 by omega), u64_n (show j + 1 ≤ 1000000 by omega), e3, ep, e4]
      exact e5
    · obtain rfl : j = n := by omega
      rw [decide_eq_false (show ¬ (j : Int) < (j : Int) by omega), cond_false]
      exact ⟨x, q, r, h, rfl, H⟩

theorem fills_b {n w : Nat} (hw : (w : Int) = 1 + g.Window % 12) (hb : IntKind.wrap .i64 ((IntKind.wrap .i64 (Int.tmod g.Sure 60)) + (IntKind.wrap .i64 (Int.tmod (IntKind.wrap .u8 (IntKind.wrap .i64 ((1 : Int) + (IntKind.wrap .i64 (Int.tmod g.Window 12))))) 13))) = ((n + w : Nat) : Int)) (hn : n + w ≤ 100) {q : T_queue_Queue} {r : T_ring_Ring} {h : T_fold_History} : ∀ (m j : Nat) (x : T_rollback_Engine), n + w - j < m → n ≤ j → j ≤ n + w → FI g x q r h n j n →
    ∃ x', m_hindcastlaw28_BackfillFills_L100033_3 F g q.first_ q.l q.last r.size r.places m (j : Int) x.player x.window x.sure.Frame x.sure.Seed x.sure.Players x.sure.Shots x.sure.Score x.own =
      some (x'.player, x'.window, x'.sure.Frame, x'.sure.Seed, x'.sure.Players, x'.sure.Shots, x'.sure.Score, x'.own) ∧ FI g x' q r h n (n + w) n
  | 0, j, x, hm, _, _, _ => by omega
  | m + 1, j, x, hm, hnj, hj, H => by
    rw [m_hindcastlaw28_BackfillFills_L100033_3.eq_2, hb]
    by_cases hlt : j < n + w
    · obtain ⟨x1, e1, H1⟩ := fi_local (F := F) H (by omega)
      obtain ⟨x', e5, R⟩ := fills_b hw hb hn m (j + 1) x1 (by omega) (by omega) (by omega) H1
      refine ⟨x', ?_, R⟩
      have e1' : m_rollback_Engine_Local F (T_rollback_Engine.mk x.player x.window (T_api_State.mk x.sure.Frame x.sure.Seed x.sure.Players x.sure.Shots x.sure.Score) x.own) (T_queue_Queue.mk q.first_ q.l q.last) (T_ring_Ring.mk r.size r.places) (atg g.Mine j) = _ := e1
      rw [decide_eq_true (show (j : Int) < ((n + w : Nat) : Int) by omega), cond_true]
      simp only [at_of, Option.bind_some, e1', i64_s (show j ≤ 1000000 by omega)]
      exact e5
    · obtain rfl : j = n + w := by omega
      rw [decide_eq_false (show ¬ ((n + w : Nat) : Int) < ((n + w : Nat) : Int) by omega), cond_false]
      exact ⟨x, rfl, H⟩

theorem fills_o (hp : plg g = 0 ∨ plg g = 1) {v64 : Int} {n : Nat} (hb : IntKind.wrap .i64 ((IntKind.wrap .i64 (Int.tmod g.Sure 60)) + v64) = (n : Int)) (hn : n ≤ 100) : ∀ (m j : Nat) (h : T_fold_History), n - j < m → j ≤ n → HI h 0 256 (tps g j) → ∃ h', m_hindcastlaw28_BackfillFills_L34_1 F g v64 m (j : Int) h = some h' ∧ HI h' 0 256 (tps g n)
  | 0, j, h, hm, _, _ => by omega
  | m + 1, j, h, hm, hj, H => by
    rw [m_hindcastlaw28_BackfillFills_L34_1.eq_2, hb]
    by_cases hlt : j < n
    · obtain ⟨h4, e4, H4⟩ := fi_add (F := F) H (by omega)
      obtain ⟨h', e5, R⟩ := fills_o hp hb hn m (j + 1) h4 (by omega) hlt H4
      refine ⟨h', ?_, R⟩
      rw [decide_eq_true (show (j : Int) < (n : Int) by omega), cond_true]
      simp only [gpair_of (F := F) hp, Option.bind_some, e4, i64_s (show j ≤ 1000000 by omega)]
      exact e5
    · obtain rfl : j = n := by omega
      rw [decide_eq_false (show ¬ (j : Int) < (j : Int) by omega), cond_false]
      exact ⟨h, rfl, H⟩

/-! ### What is told -/
theorem pairs1_of (H : FI g x q r h c t known) (hp : plg g = 0 ∨ plg g = 1) (hF : 1010 ≤ F) (hk : known ≤ 300) (ht : t ≤ 300) {f : Nat} (hc : c ≤ f) (hft : f < t) (hfk : f ≤ known) (h24 : known - c < 24) :
    ∃ q' r', m_backfill_Pairs_1 F (f : Int) (tp g f) () h () x q r (plg g) = some (q', r', 0) ∧ FI g x q' r' h c t (max known (f + 1)) := by
  obtain ⟨q', r', e, H'⟩ := fi_remote (F := F) H hF hk hfk h24
  refine ⟨q', r', ?_, H'⟩
  have hat : ∃ v, m_fold_History_At F h (f : Int) = some v := ⟨_, hat_of H.hi (by omega)⟩
  obtain ⟨v, hv⟩ := hat
  have hol := H.ol
  have hT : m_rollback_Engine_T F x q r = some (t : Int) := by
    have hct := H.ct
    rw [T_of H.ei, H.fr, hol]; congr 1; omega
  have hO : m_rollback_Engine_Own F x q r = some x.own := Own_of q r (by omega)
  have hw : IntKind.wrap .u64 ((f : Int) - (c : Int)) = ((f - c : Nat) : Int) := by rw [wr_u64 ⟨by omega, by omega⟩]; omega
  have hg : x.own[f - c]? = some (mine g f) := by
    rw [H.own]
    unfold ownL
    rw [List.getElem?_map, List.getElem?_range' (by omega)]
    simp [show c + (f - c) = f by omega]
  have hC : m_rollback_Engine_C F x q r = some (c : Int) := by rw [C_of, H.fr]
  unfold m_backfill_Pairs_1
  rw [hv]
  simp only [Option.bind_some, hC, decide_eq_false (show ¬ (f : Int) < (c : Int) by omega), cond_false, hT, decide_eq_false (show ¬ (t : Int) ≤ (f : Int) by omega), hO, hw, getI_nat, hg]
  have htp : tp g f = pr (plg g) (mine g f) (atg g.Theirs f) := rfl
  rw [htp]
  rcases hp with h0 | h0 <;> rw [h0] <;> simp only [pr, show ((0 : Int) == 0) = true from rfl, show ((1 : Int) == 0) = false from rfl, show ((1 : Int) == 1) = true from rfl, cond_true, cond_false, if_true, show ((1 : Int) = 0) = False from by simp, if_false, bne_self_eq_false, show (IntKind.wrap .u8 ((1 : Int) - 0) == 0) = false from rfl, show (IntKind.wrap .u8 ((1 : Int) - 0) == 1) = true from rfl, show (IntKind.wrap .u8 ((1 : Int) - 1) == 0) = true from rfl, e, Option.bind_some]

theorem pairs_loop (hp : plg g = 0 ∨ plg g = 1) (hF : 1010 ≤ F) (ht : t ≤ 300) {nn : Nat} (hnt : nn ≤ t) (hcn : c ≤ nn) (h24 : nn - c < 24) : ∀ (m i known : Nat) (q : T_queue_Queue) (r : T_ring_Ring), nn - c - i < m → i ≤ nn - c → c + i ≤ known → known ≤ nn → FI g x q r h c t known →
    ∃ q' r', m_backfill_Pairs_L100021 F x h (plg g) (c : Int) ((List.range' c (nn - c)).map (tp g)) m (i : Int) (i : Int) q.first_ q.l q.last r.size r.places = some (.inl (((nn - c : Nat) : Int), q'.first_, q'.l, q'.last, r'.size, r'.places)) ∧ FI g x q' r' h c t nn
  | 0, i, known, q, r, hm, _, _, _, _ => by omega
  | m + 1, i, known, q, r, hm, hi, hk, hkn, H => by
    rw [m_backfill_Pairs_L100021.eq_2]
    have hlen : ((List.range' c (nn - c)).map (tp g)).length = nn - c := by simp
    rw [hlen]
    by_cases hlt : i < nn - c
    · have hx : ((List.range' c (nn - c)).map (tp g))[i]? = some (tp g (c + i)) := by
        rw [List.getElem?_map, List.getElem?_range' hlt]
        simp
      obtain ⟨q1, r1, e1, H1⟩ := pairs1_of (F := F) H hp hF (by omega) ht (f := c + i) (by omega) (by omega) hk (by omega)
      obtain ⟨q', r', e5, R⟩ := pairs_loop hp hF ht hnt hcn h24 m (i + 1) (max known (c + i + 1)) q1 r1 (by omega) (by omega) (by omega) (by omega) H1
      refine ⟨q', r', ?_, R⟩
      have w1 : IntKind.wrap .u64 ((c : Int) + (i : Int)) = ((c + i : Nat) : Int) := by rw [wr_u64 ⟨by omega, by omega⟩]; omega
      have e1' : m_backfill_Pairs_1 F ((c + i : Nat) : Int) (tp g (c + i)) () h () x (T_queue_Queue.mk q.first_ q.l q.last) (T_ring_Ring.mk r.size r.places) (plg g) = _ := e1
      rw [decide_eq_true (show (i : Int) < ((nn - c : Nat) : Int) by omega), cond_true]
      simp only [getI_nat, hx, Option.bind_some, u64_n (show i ≤ 1000000 by omega), w1, e1', show ((0 : Int) != 0) = false from rfl, cond_false, i64_s (show i ≤ 1000000 by omega)]
      exact e5
    · obtain rfl : i = nn - c := by omega
      obtain rfl : known = nn := by omega
      rw [decide_eq_false (show ¬ ((known - c : Nat) : Int) < ((known - c : Nat) : Int) by omega), cond_false]
      exact ⟨q, r, rfl, H⟩

theorem tps_drop {nn : Nat} : (tps g nn).drop c = (List.range' c (nn - c)).map (tp g) := by
  apply List.ext_getElem?
  intro i
  rw [List.getElem?_drop]
  unfold tps
  rw [List.getElem?_map, List.getElem?_map]
  by_cases hi : i < nn - c
  · rw [List.getElem?_range (by omega), List.getElem?_range' hi]
    simp
  · rw [List.getElem?_eq_none (by simp; omega), List.getElem?_eq_none (by simp; omega)]
theorem bpairs_of (H : FI g x q r h c t known) (hp : plg g = 0 ∨ plg g = 1) (hF : 1010 ≤ F) (ht : t ≤ 300) {nn : Nat} (hnt : nn ≤ t) (hcn : c ≤ nn) (h24 : nn - c < 24) (hkn : known ≤ nn) {first : Int} (hf : first = if c < nn then (c : Int) else 0) :
    ∃ q' r', m_backfill_Pairs F x q r h (plg g) first ((List.range' c (nn - c)).map (tp g)) = some (q', r', ((nn - c : Nat) : Int), 0) ∧ FI g x q' r' h c t nn := by
  have hck := H.ck
  have hp1 : decide ((1 : Int) < plg g) = false := by rcases hp with h | h <;> rw [h] <;> rfl
  have hlen : ((List.range' c (nn - c)).map (tp g)).length = nn - c := by simp
  have hb : decide (IntKind.wrap .u64 ((18446744073709551615 : Int) - first) < IntKind.wrap .u64 ((((List.range' c (nn - c)).map (tp g)).length : Nat) : Int)) = false := by
    rw [hlen, u64_n (by omega), wr_u64 ⟨by split at hf <;> omega, by split at hf <;> omega⟩, decide_eq_false]
    split at hf <;> omega
  unfold m_backfill_Pairs
  rw [hp1, hb]
  by_cases hc : c < nn
  · rw [if_pos hc] at hf
    subst hf
    obtain ⟨q', r', e, H'⟩ := pairs_loop (F := F) hp hF ht hnt hcn h24 F 0 known q r (by omega) (by omega) (by omega) hkn H
    rw [show ((0 : Nat) : Int) = 0 from rfl] at e
    simp only [cond_false, Option.bind_some, e, orE_l]
    exact ⟨q', r', rfl, H'⟩
  · obtain rfl : c = nn := by omega
    obtain rfl : known = c := by omega
    obtain ⟨F', hF'⟩ : ∃ F', F = F' + 1 := ⟨F - 1, by omega⟩
    have e : m_backfill_Pairs_L100021 F x h (plg g) first ((List.range' known (known - known)).map (tp g)) F 0 0 q.first_ q.l q.last r.size r.places = some (.inl (0, q.first_, q.l, q.last, r.size, r.places)) := by
      have h2 : ∀ F'', m_backfill_Pairs_L100021 F'' x h (plg g) first ((List.range' known (known - known)).map (tp g)) (F' + 1) 0 0 q.first_ q.l q.last r.size r.places = some (.inl (0, q.first_, q.l, q.last, r.size, r.places)) := by
        intro F''
        rw [m_backfill_Pairs_L100021.eq_2, Nat.sub_self]
        rfl
      have := h2 F
      rw [← hF'] at this
      exact this
    simp only [cond_false, Option.bind_some, e, orE_l]
    rw [Nat.sub_self]
    exact ⟨q, r, rfl, H⟩

theorem l74_of (hp : plg g = 0 ∨ plg g = 1) (hF : 1010 ≤ F) (ht : t ≤ 300) {nn turn : Nat} (htu : turn ≤ 3) (hnt : nn ≤ t) (hcn : c ≤ nn) (h24 : nn - c < 24) {first : Int} (hf : first = if c < nn then (c : Int) else 0) : ∀ (m j known : Nat) (q : T_queue_Queue) (r : T_ring_Ring), 1 + turn - j < m → j ≤ 1 + turn → known ≤ nn → FI g x q r h c t known → (j = 0 ∨ known = nn) →
    ∃ q' r', m_hindcastlaw28_BackfillFills_L74_1 F g (turn : Int) x.player x.window x.sure.Frame x.sure.Seed x.sure.Players x.sure.Shots x.sure.Score x.own h first ((nn - c : Nat) : Int) ((List.range' c (nn - c)).map (tp g)) m (j : Int) q.first_ q.l q.last r.size r.places = some (.inl (false, q'.first_, q'.l, q'.last, r'.size, r'.places)) ∧ FI g x q' r' h c t nn
  | 0, j, known, q, r, hm, _, _, _, _ => by omega
  | m + 1, j, known, q, r, hm, hj, hkn, H, h0 => by
    rw [m_hindcastlaw28_BackfillFills_L74_1.eq_2]
    have w1 : IntKind.wrap .i64 ((1 : Int) + (turn : Int)) = ((1 + turn : Nat) : Int) := by rw [wr_i64 ⟨by omega, by omega⟩]; omega
    rw [w1]
    by_cases hlt : j < 1 + turn
    · obtain ⟨q1, r1, e1, H1⟩ := bpairs_of (F := F) H hp hF ht hnt hcn h24 hkn hf
      obtain ⟨q', r', e5, R⟩ := l74_of hp hF ht htu hnt hcn h24 hf m (j + 1) nn q1 r1 (by omega) (by omega) (Nat.le_refl _) H1 (.inr rfl)
      refine ⟨q', r', ?_, R⟩
      have e1' : m_backfill_Pairs F (T_rollback_Engine.mk x.player x.window (T_api_State.mk x.sure.Frame x.sure.Seed x.sure.Players x.sure.Shots x.sure.Score) x.own) (T_queue_Queue.mk q.first_ q.l q.last) (T_ring_Ring.mk r.size r.places) h (Int.tmod g.Player 2) first ((List.range' c (nn - c)).map (tp g)) = _ := e1
      rw [decide_eq_true (show (j : Int) < ((1 + turn : Nat) : Int) by omega), cond_true]
      simp only [e1', Option.bind_some, bne_self_eq_false, show ((0 : Int) != 0) = false from rfl, cond_false, i64_s (show j ≤ 1000000 by omega)]
      exact e5
    · obtain rfl : known = nn := by rcases h0 with h | h <;> omega
      rw [decide_eq_false (show ¬ (j : Int) < ((1 + turn : Nat) : Int) by omega), cond_false]
      exact ⟨q, r, rfl, H⟩

theorem l97_of (hp : plg g = 0 ∨ plg g = 1) (hF : 1010 ≤ F) {v64 : Int} {nn : Nat} {p2 : Bool} {l75 : Bool} (hb : IntKind.wrap .i64 ((IntKind.wrap .i64 (Int.tmod g.Sure 60)) + v64) = (nn : Int)) (hn : nn ≤ 200) (hnt : nn < t) : ∀ (m j c : Nat) (x : T_rollback_Engine) (q : T_queue_Queue) (r : T_ring_Ring) (h : T_fold_History), 21 - j < m → c ≤ nn → (nn - c) + j ≤ 20 → FI g x q r h c t nn →
    ∃ c' x' q' r' h', m_hindcastlaw28_BackfillFills_L97_1 F g p2 v64 l75 m (j : Int) x.player x.window x.sure.Frame x.sure.Seed x.sure.Players x.sure.Shots x.sure.Score x.own q.first_ q.l q.last r.size r.places h =
      some (.inl (l75, x'.player, x'.window, x'.sure.Frame, x'.sure.Seed, x'.sure.Players, x'.sure.Shots, x'.sure.Score, x'.own, q'.first_, q'.l, q'.last, r'.size, r'.places, h')) ∧ FI g x' q' r' h' c' t nn ∧ c ≤ c' ∧ c' ≤ nn
  | 0, j, c, x, q, r, h, hm, _, _, _ => by omega
  | m + 1, j, c, x, q, r, h, hm, hcn, hj, H => by
    rw [m_hindcastlaw28_BackfillFills_L97_1.eq_2, hb]
    have eC : m_rollback_Engine_C F (T_rollback_Engine.mk x.player x.window (T_api_State.mk x.sure.Frame x.sure.Seed x.sure.Players x.sure.Shots x.sure.Score) x.own) (T_queue_Queue.mk q.first_ q.l q.last) (T_ring_Ring.mk r.size r.places) = some (c : Int) := by
      rw [C_of]
      show some x.sure.Frame = _
      rw [H.fr]
    simp only [eC, Option.bind_some, u64_n (show nn ≤ 1000000 by omega), r_and]
    by_cases hgo : c < nn ∧ p2 = true
    · obtain ⟨h1, rfl⟩ := hgo
      obtain ⟨x1, q1, r1, e1, H1⟩ := fi_confirm (F := F) H hF (by omega) h1 (f := (nn : Int)) (by omega)
      obtain ⟨h2, e2, H2⟩ := fi_add (F := F) H.hi (by omega)
      obtain ⟨c', x', q', r', h', e5, R1, R2, R3⟩ := l97_of hp hF hb hn hnt m (j + 1) (c + 1) x1 q1 r1 h2 (by omega) (by omega) (by omega) (H1 h2 H2)
      refine ⟨c', x', q', r', h', ?_, R1, by omega, R3⟩
      have e1' : m_rollback_Engine_Confirm F (T_rollback_Engine.mk x.player x.window (T_api_State.mk x.sure.Frame x.sure.Seed x.sure.Players x.sure.Shots x.sure.Score) x.own) (T_queue_Queue.mk q.first_ q.l q.last) (T_ring_Ring.mk r.size r.places) (nn : Int) = _ := e1
      have ect : m_fold_History_Count F h = some (c : Int) := by
        rw [count_of H.hi, tps_length]; simp
      have wc : IntKind.wrap .i64 (c : Int) = (c : Int) := wr_i64 ⟨by omega, by omega⟩
      rw [decide_eq_true (show (j : Int) < 20 by omega), decide_eq_true (show (c : Int) < (nn : Int) by omega)]
      simp only [Bool.and_self, cond_true, e1', Option.bind_some, Bool.not_true, cond_false, ect, wc, gpair_of (F := F) hp, beq_self_eq_true, e2, show ((0 : Int) != 0) = false from rfl, i64_s (show j ≤ 1000000 by omega)]
      exact e5
    · have hz : ((decide ((j : Int) < 20) && decide ((c : Int) < (nn : Int))) && p2) = false := by
        cases hh : ((decide ((j : Int) < 20) && decide ((c : Int) < (nn : Int))) && p2) with
        | false => rfl
        | true =>
          exfalso
          simp only [Bool.and_eq_true, decide_eq_true_eq] at hh
          exact hgo ⟨by omega, hh.2⟩
      rw [hz, cond_false]
      exact ⟨c, x, q, r, h, rfl, H, Nat.le_refl _, hcn⟩

theorem l49_of (hp : plg g = 0 ∨ plg g = 1) (hF : 1010 ≤ F) {v64 : Int} {nn n0 : Nat} {p2 : Bool} {o : T_fold_History} (hb : IntKind.wrap .i64 ((IntKind.wrap .i64 (Int.tmod g.Sure 60)) + v64) = (nn : Int)) (hn : nn ≤ 200) (ht : t ≤ 300) (hnt : nn < t) (ho : HI o 0 256 (tps g nn)) (h24 : nn - n0 ≤ 20) : ∀ (m j c known : Nat) (x : T_rollback_Engine) (q : T_queue_Queue) (r : T_ring_Ring) (h : T_fold_History), 3 - j < m → j ≤ 3 → n0 ≤ c → c ≤ nn → known ≤ nn → FI g x q r h c t known →
    ∃ s, m_hindcastlaw28_BackfillFills_L49_1 F g p2 v64 o m (j : Int) x.player x.window x.sure.Frame x.sure.Seed x.sure.Players x.sure.Shots x.sure.Score x.own q.first_ q.l q.last r.size r.places h = some (.inl s)
  | 0, j, c, known, x, q, r, h, hm, _, _, _, _, _ => by omega
  | m + 1, j, c, known, x, q, r, h, hm, hj, hc0, hcn, hkn, H => by
    rw [m_hindcastlaw28_BackfillFills_L49_1.eq_2, hb]
    by_cases hlt : j < 3
    · have eC : m_rollback_Engine_C F (T_rollback_Engine.mk x.player x.window (T_api_State.mk x.sure.Frame x.sure.Seed x.sure.Players x.sure.Shots x.sure.Score) x.own) (T_queue_Queue.mk q.first_ q.l q.last) (T_ring_Ring.mk r.size r.places) = some (c : Int) := by
        rw [C_of]
        show some x.sure.Frame = _
        rw [H.fr]
      have hlen : ((List.range' c (nn - c)).map (tp g)).length = nn - c := by simp
      have esl : m_fold_History_Slice F o (c : Int) (32 : Int) = some ((List.range' c (nn - c)).map (tp g)) := by
        rw [slice_of ho ⟨by omega, by omega⟩ (by omega) (by omega)]
        unfold slv
        rw [if_pos (by omega), show ((c : Int) - 0).toNat = c by omega, tps_drop, List.take_of_length_le (by rw [hlen]; show nn - c ≤ 32; omega)]
      have epl : m_backfill_Plan F o (c : Int) = some ((if c < nn then (c : Int) else 0), ((nn - c : Nat) : Int)) := by
        unfold m_backfill_Plan
        rw [esl]
        simp only [Option.bind_some, hlen]
        by_cases h1 : c < nn
        · rw [show (((nn - c : Nat) : Int) == 0) = false by simp; omega, if_pos h1]; rfl
        · rw [show nn - c = 0 by omega, if_neg h1]; rfl
      have esl2 : m_fold_History_Slice F o (if c < nn then (c : Int) else 0) ((nn - c : Nat) : Int) = some ((List.range' c (nn - c)).map (tp g)) := by
        by_cases h1 : c < nn
        · rw [if_pos h1, slice_of ho ⟨by omega, by omega⟩ (by omega) (by omega)]
          unfold slv
          rw [if_pos (by omega), show ((c : Int) - 0).toNat = c by omega, tps_drop, List.take_of_length_le (by rw [hlen]; omega)]
        · rw [if_neg h1, slice_of ho ⟨by omega, by omega⟩ (by omega) (by omega), show nn - c = 0 by omega]
          unfold slv
          rw [if_pos (by omega)]
          rfl
      have b1 : (cond ((if c < nn then (c : Int) else 0) != (c : Int)) (some (decide ((0 : Int) < ((nn - c : Nat) : Int)))) (some false)) = some false := by
        by_cases h1 : c < nn
        · rw [if_pos h1, bne_self_eq_false]; rfl
        · rw [decide_eq_false (show ¬ (0 : Int) < ((nn - c : Nat) : Int) by omega)]
          cases ((if c < nn then (c : Int) else 0) != (c : Int)) <;> rfl
      have b2 : (IntKind.wrap .u64 ((nn - c : Nat) : Int) != min (32 : Int) (IntKind.wrap .u64 ((nn : Int) - (c : Int)))) = false := by
        rw [u64_n (by omega), wr_u64 ⟨by omega, by omega⟩]
        simp; omega
      obtain ⟨q1, r1, e1, H1⟩ := l74_of (F := F) (x := x) (h := h) (c := c) (t := t) hp hF ht (turn := j) (by omega) (Nat.le_of_lt hnt) hcn (by omega) rfl F 0 known q r (by omega) (by omega) hkn H (.inl rfl)
      rw [show ((0 : Nat) : Int) = 0 from rfl] at e1
      obtain ⟨c2, x2, q2, r2, h2, e2, H2, g1, g2⟩ := l97_of (F := F) (p2 := p2) (l75 := false) hp hF hb hn hnt F 0 c x q1 r1 h (by omega) hcn (by omega) H1
      rw [show ((0 : Nat) : Int) = 0 from rfl] at e2
      obtain ⟨s, e5⟩ := l49_of hp hF hb hn ht hnt ho h24 m (j + 1) c2 nn x2 q2 r2 h2 (by omega) (by omega) (by omega) g2 (Nat.le_refl _) H2
      refine ⟨s, ?_⟩
      have ek : m_rollback_Engine_Known F (T_rollback_Engine.mk x2.player x2.window (T_api_State.mk x2.sure.Frame x2.sure.Seed x2.sure.Players x2.sure.Shots x2.sure.Score) x2.own) (T_queue_Queue.mk q2.first_ q2.l q2.last) (T_ring_Ring.mk r2.size r2.places) = some (nn : Int) := by
        have := Known_of (F := F) H2.ei r2
        rw [thL_length, Nat.zero_add] at this
        exact this
      rw [decide_eq_true (show (j : Int) < 3 by omega), cond_true]
      simp only [eC, Option.bind_some, epl]
      rw [b1]
      simp only [Option.bind_some, cond_false, decide_eq_false (show ¬ (32 : Int) < ((nn - c : Nat) : Int) by omega), u64_n (show nn ≤ 1000000 by omega), b2, esl2, e1, orE_l, e2, ek, bne_self_eq_false, i64_s (show j ≤ 1000000 by omega)]
      exact e5
    · rw [decide_eq_false (show ¬ (j : Int) < 3 by omega), cond_false]
      exact ⟨_, rfl⟩
end

theorem fills_pure (hF : 1010 ≤ F) (hwk : m_hindcastlaw28_works F = some true) {g : T_hindcastlaw28_Setup} {p1 : Int} {p2 : Bool} (hs : 0 ≤ g.Seed ∧ g.Seed ≤ 18446744073709551615) (hpl : 0 ≤ g.Player ∧ g.Player ≤ 255) (hw : 0 ≤ g.Window ∧ g.Window ≤ 255) (hsu : 0 ≤ g.Sure ∧ g.Sure ≤ 255) (h1 : 0 ≤ p1 ∧ p1 ≤ 255) : m_hindcastlaw28_BackfillFills F g p1 p2 = some true := by
  unfold m_hindcastlaw28_BackfillFills
  by_cases hg : ((decide ((100 : Int) < (g.Mine.length : Int))) || (decide ((100 : Int) < (g.Theirs.length : Int)))) = true
  · rw [r_or, hg]
    simp only [Option.bind_some, cond_true, hwk]
  · rw [Bool.not_eq_true] at hg
    rw [r_or, hg]
    have tp' : Int.tmod g.Player 2 = 0 ∨ Int.tmod g.Player 2 = 1 := by
      rw [Int.tmod_eq_emod_of_nonneg hpl.1]; omega
    have hp : plg g = 0 ∨ plg g = 1 := tp'
    have tw : Int.tmod g.Window 12 = g.Window % 12 := Int.tmod_eq_emod_of_nonneg hw.1
    have ts : Int.tmod g.Sure 60 = g.Sure % 60 := Int.tmod_eq_emod_of_nonneg hsu.1
    have w1 : IntKind.wrap .i64 (Int.tmod g.Window 12) = g.Window % 12 := by rw [tw]; exact wr_i64 ⟨by omega, by omega⟩
    have w2 : IntKind.wrap .i64 (1 + g.Window % 12) = 1 + g.Window % 12 := wr_i64 ⟨by omega, by omega⟩
    have w3 : IntKind.wrap .i64 p1 = p1 := wr_i64 ⟨by omega, by omega⟩
    obtain ⟨n, hn⟩ : ∃ n : Nat, (n : Int) = g.Sure % 60 := ⟨(g.Sure % 60).toNat, by omega⟩
    obtain ⟨w, hww⟩ : ∃ w : Nat, (w : Int) = 1 + g.Window % 12 := ⟨(1 + g.Window % 12).toNat, by omega⟩
    have w4 : IntKind.wrap .i64 (Int.tmod g.Sure 60) = (n : Int) := by rw [ts, wr_i64 ⟨by omega, by omega⟩]; omega
    have w5 : IntKind.wrap .u8 (IntKind.wrap .i64 ((1 : Int) + IntKind.wrap .i64 (Int.tmod g.Window 12))) = 1 + g.Window % 12 := by
      rw [w1, w2]
      simp only [IntKind.wrap, IntKind.bits, IntKind.signed]; simp; omega
    have w6 : Int.tmod (1 + g.Window % 12) 13 = 1 + g.Window % 12 := by rw [Int.tmod_eq_emod_of_nonneg (by omega)]; omega
    have w7 : IntKind.wrap .i64 ((IntKind.wrap .i64 (Int.tmod g.Sure 60)) + (IntKind.wrap .i64 (Int.tmod (IntKind.wrap .u8 (IntKind.wrap .i64 ((1 : Int) + (IntKind.wrap .i64 (Int.tmod g.Window 12))))) 13))) = ((n + w : Nat) : Int) := by
      rw [w4, w5, w6, w2, wr_i64 ⟨by omega, by omega⟩]; omega
    have hme := Int.emod_nonneg p1 (show (1 + g.Window % 12) ≠ 0 by omega)
    have hml := Int.emod_lt_of_pos p1 (show 0 < 1 + g.Window % 12 by omega)
    obtain ⟨mo, hmo⟩ : ∃ mo : Nat, (mo : Int) = p1 % (1 + g.Window % 12) := ⟨(p1 % (1 + g.Window % 12)).toNat, by omega⟩
    have hrem : remI p1 (1 + g.Window % 12) = some (mo : Int) := by
      unfold remI
      rw [if_neg (by omega), Int.tmod_eq_emod_of_nonneg h1.1, hmo]
    have w8 : IntKind.wrap .i64 ((IntKind.wrap .i64 (Int.tmod g.Sure 60)) + (mo : Int)) = ((n + mo : Nat) : Int) := by
      rw [w4, wr_i64 ⟨by omega, by omega⟩]; omega
    obtain ⟨r0, e0, H0⟩ := new_ei (F := F) hF (w := 1 + g.Window % 12) (start_ok hs) (start_good g.Seed) (by show (0 : Int) ≤ _; omega) tp' (by omega)
    obtain ⟨h0, eh, Hh⟩ := new_of (F := F) (fr := 0) (mo := 256) ⟨by omega, by omega⟩ ⟨by omega, by omega⟩
    have G0 : FI g ⟨Int.tmod g.Player 2, 1 + g.Window % 12, startS g.Seed, []⟩ (qOf (startS g.Seed).Frame.toNat 0 []) r0 h0 0 0 0 := ⟨H0, rfl, rfl, rfl, Nat.le_refl _, Hh⟩
    obtain ⟨x1, q1, r1, h1', e1, G1⟩ := fills_a (F := F) hF hp w4 (by omega) F 0 _ _ r0 h0 (by omega) (by omega) G0
    rw [show ((0 : Nat) : Int) = 0 from rfl] at e1
    obtain ⟨x2, e2, G2⟩ := fills_b (F := F) (q := q1) (r := r1) (h := h1') hww w7 (by omega) F n x1 (by omega) (Nat.le_refl _) (by omega) G1
    have e3 : m_hindcastlaw28_BackfillFills_L100048_3 F g x2.player x2.window x2.sure.Frame x2.sure.Seed x2.sure.Players x2.sure.Shots x2.sure.Score x2.own F (n : Int) q1.first_ q1.l q1.last r1.size r1.places = some (q1.first_, q1.l, q1.last, r1.size, r1.places) := by
      obtain ⟨F', hF'⟩ : ∃ F', F = F' + 1 := ⟨F - 1, by omega⟩
      have h2 : ∀ F'', m_hindcastlaw28_BackfillFills_L100048_3 F'' g x2.player x2.window x2.sure.Frame x2.sure.Seed x2.sure.Players x2.sure.Shots x2.sure.Score x2.own (F' + 1) (n : Int) q1.first_ q1.l q1.last r1.size r1.places = some (q1.first_, q1.l, q1.last, r1.size, r1.places) := by
        intro F''
        have w9 : IntKind.wrap .i64 ((n : Int) + IntKind.wrap .i64 (Int.tmod (0 : Int) 13)) = (n : Int) := by
          rw [show IntKind.wrap .i64 (Int.tmod (0 : Int) 13) = 0 from rfl, Int.add_zero]
          exact wr_i64 ⟨by omega, by omega⟩
        rw [m_hindcastlaw28_BackfillFills_L100048_3.eq_2, w4, w9, decide_eq_false (show ¬ (n : Int) < (n : Int) by omega), cond_false]
      have := h2 F
      rw [← hF'] at this
      exact this
    obtain ⟨h3, d, e4, hd1, hd2, H3⟩ := drop_of (F := F) G2.hi (p := IntKind.wrap .u64 (Int.tmod (0 : Int) 80))
    have hd0 : d = 0 := by
      rw [show IntKind.wrap .u64 (Int.tmod (0 : Int) 80) = 0 from rfl, tps_length] at hd2
      omega
    subst hd0
    have H3' : HI h3 0 256 (tps g n) := H3
    obtain ⟨ho, eo, Ho⟩ := fills_o (F := F) (g := g) hp w8 (by omega) F 0 h0 (by omega) (by omega) Hh
    rw [show ((0 : Nat) : Int) = 0 from rfl] at eo
    obtain ⟨s, e5⟩ := l49_of (F := F) (g := g) (p2 := p2) (n0 := n) (t := n + w) hp hF w8 (by omega) (by omega) (by omega) Ho (by omega) F 0 n n x2 q1 r1 h3 (by omega) (by omega) (Nat.le_refl _) (by omega) (by omega) ⟨G2.ei, G2.pl, G2.w, G2.own, G2.ct, H3'⟩
    rw [show ((0 : Nat) : Int) = 0 from rfl] at e5
    simp only [cond_false, Option.bind_some, start_is (F := F) (show 3 ≤ F by omega), w1, w2, e0, poE, eh, e1]
    rw [w4]
    simp only [e2, Option.bind_some, e3, e4, w3, hrem, eo, e5, orE_l, hwk]

theorem fills_works : m_hindcastlaw28_works 1010 = some true := by kernel_rfl

theorem rd_bool' {w : World} {m : Nat} {t sz by' : Nat} {z : Option (List Value)} {cs : List Value} (h : Rdw TT w (m + 1) t cs) (hl : lookT TT t = some ⟨.bool, sz, by', z⟩) : ∃ b, cs = [.bool b] := by
  unfold Rdw at h; rw [hl] at h; exact h
theorem inputs_rd {W : World} {m : Nat} {v : Value} (h : Rdw TT W (m + 3) 23 [v]) : ∃ (a : Option Addr) (n cap : Nat) (xs : List Int), v = .slice a n cap ∧ n = xs.length ∧ n ≤ cap ∧ Rds W [] [] a (flat (e1 .u8) xs) := by
  obtain ⟨a, n, cap, xs, hv, hn, hc, _, hr, _⟩ := rd_list (enc := e1 .u8) (ok := fun _ => True) h rfl rfl (e1_len _) (fun es hes h => by
    match es, hes with
    | [c], _ =>
      obtain ⟨x, rfl, wx⟩ := rd_cell h rfl
      exact ⟨x, rfl, trivial⟩)
  exact ⟨a, n, cap, xs, hv, hn, hc, hr⟩

theorem setup_rd {W : World} {m : Nat} {cs : List Value} (h : Rdw TT W (m + 4) 25 cs) :
    ∃ (g : T_hindcastlaw28_Setup) (a0 : Option Addr) (n0 c0 : Nat) (a1 : Option Addr) (n1 c1 : Nat), cs = [.int .u64 g.Seed, .int .u8 g.Player, .int .u8 g.Window, .int .u8 g.Sure, .int .u8 g.Ahead, .int .u8 g.Told, .int .u8 g.From, .slice a0 n0 c0, .slice a1 n1 c1] ∧ (n0 = g.Mine.length ∧ n0 ≤ c0 ∧ Rds W [] [] a0 (flat (e1 .u8) g.Mine)) ∧ (n1 = g.Theirs.length ∧ n1 ≤ c1 ∧ Rds W [] [] a1 (flat (e1 .u8) g.Theirs)) ∧
      (0 ≤ g.Seed ∧ g.Seed ≤ 18446744073709551615) ∧ (0 ≤ g.Player ∧ g.Player ≤ 255) ∧ (0 ≤ g.Window ∧ g.Window ≤ 255) ∧ (0 ≤ g.Sure ∧ g.Sure ≤ 255) := by
  obtain ⟨hl, hf⟩ := rd_struct h rfl
  match cs, hl with
  | [v0, v1, v2, v3, v4, v5, v6, v7, v8], _ =>
    obtain ⟨s, rfl, ws⟩ := rd_cell (hf (22, 0) (by simp)) rfl
    obtain ⟨p, rfl, wp⟩ := rd_cell (hf (5, 1) (by simp)) rfl
    obtain ⟨w, rfl, ww⟩ := rd_cell (hf (5, 2) (by simp)) rfl
    obtain ⟨u, rfl, wu⟩ := rd_cell (hf (5, 3) (by simp)) rfl
    obtain ⟨a, rfl, wa⟩ := rd_cell (hf (5, 4) (by simp)) rfl
    obtain ⟨t, rfl, wt⟩ := rd_cell (hf (5, 5) (by simp)) rfl
    obtain ⟨f, rfl, wf⟩ := rd_cell (hf (5, 6) (by simp)) rfl
    have h3 : Rdw TT W (m + 3) 23 [v7] := hf (23, 7) (by simp)
    have h4 : Rdw TT W (m + 3) 23 [v8] := hf (23, 8) (by simp)
    obtain ⟨a0, n0, c0, xs, rfl, hn0, hc0, hr0⟩ := inputs_rd h3
    obtain ⟨a1, n1, c1, ys, rfl, hn1, hc1, hr1⟩ := inputs_rd h4
    exact ⟨⟨s, p, w, u, a, t, f, xs, ys⟩, a0, n0, c0, a1, n1, c1, rfl, ⟨hn0, hc0, hr0⟩, ⟨hn1, hc1, hr1⟩, wf_u64 ws, wf_u8 wp, wf_u8 ww, wf_u8 wu⟩

theorem backfillFills_walk (W : World) (hG : Rds W [] [] (some ⟨0, 0, none⟩) (flat (fun _ : Unit => gl_state_playerBounds) [()]) ∧ Rds W [] [] (some ⟨1, 0, none⟩) (flat (fun _ : Unit => gl_state_shotBounds) [()]))
    (c0 : List Value) (v1 v2 : Value) (R0 : Rdw TT W 8 25 c0) (R1 : Rdw TT W 8 5 [v1]) (R2 : Rdw TT W 8 4 [v2]) :
    Calls Tryd.prog 3 #[.agg c0.toArray, v1, v2] W fun e w' => e = .returned (.bool true) ∧ Inv W [] w' [] := by
  obtain ⟨g, a0, n0, c0, a1, n1, c1, rfl, ⟨hn0, hc0, hr0⟩, ⟨hn1, hc1, hr1⟩, hs, hp, hw, hu⟩ := setup_rd R0
  obtain ⟨p1, rfl, w1⟩ := rd_cell R1 rfl
  obtain ⟨b, hb⟩ := rd_bool' R2 rfl
  obtain rfl : v2 = .bool b := (List.cons.inj hb).1
  exact (k_hindcastlaw28_BackfillFills hn0 hc0 hn1 hc1 (fills_pure (F := 1010) (by omega) fills_works hs hp hw hu (wf_u8 w1))).run W ⟨hr0, hr1, hG⟩

noncomputable def backfillFills_world (os : Os) : World :=
  { World.holding Tryd.prog os ⟨#[], #[], []⟩ with heap := ((World.holding Tryd.prog os ⟨#[], #[], []⟩).heap.modify 0 fun | .cells _ t frozen => .cells gl_state_playerBounds.toArray t frozen | o => o).modify 1 fun | .cells _ t frozen => .cells gl_state_shotBounds.toArray t frozen | o => o }
theorem backfillFills_laid_met (os : Os) : laidMet Tryd.prog Rows.backfillFillsRow.laid ((backfillFills_world os).forCall (fun _ _ => 0) ⟨#[], #[.agg #[(.int .u64 0), (.int .u8 0), (.int .u8 0), (.int .u8 0), (.int .u8 0), (.int .u8 0), (.int .u8 0), (.slice none 0 0), (.slice none 0 0)], .int .u8 0, .bool false], []⟩).memory := laidMet_of_run' 8 (by kernel_rfl) (by kernel_rfl)
theorem backfillFills_reads (os : Os) {H : Type} (enc : TypeId × Value → H) : ∃ places, DataW.whole enc Tryd.prog ((backfillFills_world os).forCall (fun _ _ => 0) ⟨#[], #[.agg #[(.int .u64 0), (.int .u8 0), (.int .u8 0), (.int .u8 0), (.int .u8 0), (.int .u8 0), (.int .u8 0), (.slice none 0 0), (.slice none 0 0)], .int .u8 0, .bool false], []⟩).memory Tryd.f3.params.toList Rows.backfillFillsSpec.vars false (#[.agg #[(.int .u64 0), (.int .u8 0), (.int .u8 0), (.int .u8 0), (.int .u8 0), (.int .u8 0), (.int .u8 0), (.slice none 0 0), (.slice none 0 0)], .int .u8 0, .bool false] : Array Value).toList 8 = some ([.agg [.lit (.int .u64 0), .lit (.int .u8 0), .lit (.int .u8 0), .lit (.int .u8 0), .lit (.int .u8 0), .lit (.int .u8 0), .lit (.int .u8 0), .nil, .nil], .lit (.int .u8 0), .lit (.bool false)], [], places) := ⟨[], by kernel_rfl⟩
set_option maxRecDepth 100000 in
theorem backfillFills_lifted (os : Os) (started : os.Started) (H : Type) (enc : TypeId × Value → H) (F : Stop.Interp) :
    ReturnsInHanded {} Tryd.checked os 3 .any ((OpenSpec.ofChange Rows.backfillFillsSpec).preRow enc Tryd.prog Tryd.f3 Rows.backfillFillsRow.domain false Rows.backfillFillsRow.laid) (((OpenSpec.ofChange Rows.backfillFillsSpec).at F).post enc Tryd.prog Tryd.f3 false true false false) := by
  obtain ⟨places, hx⟩ := backfillFills_reads os enc
  refine returnsInHanded_of_row (C := Tryd.checked) (s := OpenSpec.ofChange Rows.backfillFillsSpec) (by kernel_rfl) started (by kernel_rfl) Tryd.func3
    (witness_row_at (enc := enc) (C := Tryd.checked) false (backfillFills_world os) #[.agg #[(.int .u64 0), (.int .u8 0), (.int .u8 0), (.int .u8 0), (.int .u8 0), (.int .u8 0), (.int .u8 0), (.slice none 0 0), (.slice none 0 0)], .int .u8 0, .bool false] rfl (by kernel_rfl) (by kernel_rfl) (by kernel_rfl)
      (OpenSpec.preRow_of_cond 8 hx (by kernel_rfl) (fun k hk => by cases hk) (by kernel_rfl) (backfillFills_laid_met os))) ?_
  intro W base args ds gs before hval0 hW hcnd hk0 hsz0 hL _ _
  have hG := laid_cells hL
  have hval : ∀ (j : Nat) t v, Tryd.f3.params[j]? = some t → args[j]? = some v → Value.okWide Tryd.prog W .any base t v := hval0
  have hW' := hW
  obtain ⟨p, q, hA0, hV, rfl, hfz, hnd⟩ := hW
  have hA : DataW.TrodAll enc Tryd.prog W 0 (fun _ => true) true Tryd.f3.params.toList args.toList ds p := hA0
  obtain ⟨rfl, rfl⟩ := trodVars_none hV
  have hsz : ∀ x ∈ DataW.weightsEach Tryd.prog Tryd.f3.params.toList ds, x ≤ maxB := by
    have h1 : (DataW.weightsEach Tryd.prog (Tryd.f3.params.toList ++ []) (ds ++ [])).all (· ≤ reachBytes) = true := hsz0
    simp only [List.append_nil] at h1
    intro x hx; have h2 := List.all_eq_true.1 h1 x hx; simp only [decide_eq_true_eq] at h2; exact h2
  rw [Tryd.params3] at hA hval hsz
  have hR := rdw_all tt_ok ctt_ok (closed_of tt_closed) (fun _ => rfl) 8 hA hsz
  have hback := fun (W2 : World) (hb : Below W.heap.size W W2) => trodAll_below (by kernel_rfl : laidOutB Tryd.prog = true) hb (by kernel_rfl) hA
  obtain ⟨v0, vs0, d0, ds0, p0, q0, hargs, rfl, rfl, h0, r0⟩ := trodAll_cons hA
  obtain ⟨v1, vs1, d1, ds1, p1, q1, rfl, rfl, rfl, h1, r1⟩ := trodAll_cons r0
  obtain ⟨v2, vs2, d2, ds2, p2, q2, rfl, rfl, rfl, h2, r2⟩ := trodAll_cons r1
  obtain ⟨rfl, rfl, rfl⟩ := trodAll_nil r2
  obtain rfl : args = #[v0, v1, v2] := by cases args; simp_all
  have R0 := hR 0 25 v0 rfl rfl
  have e0 := val_agg tt_ok (t := 25) rfl rfl (hval 0 25 v0 rfl rfl)
  generalize v0.cells.toList = c0 at e0 R0
  subst e0
  have R1 := hR 1 5 v1 rfl rfl
  have e1 := val_one tt_ok (t := 5) rfl (by intro h; cases h) rfl (hval 1 5 v1 rfl rfl)
  rw [e1] at R1
  have R2 := hR 2 4 v2 rfl rfl
  have e2 := val_one tt_ok (t := 4) rfl (by intro h; cases h) rfl (hval 2 4 v2 rfl rfl)
  rw [e2] at R2
  clear hval hval0 hsz hsz0 hR hA0
  refine (backfillFills_walk W hG c0 v1 v2 R0 R1 R2).mono fun e W2 ⟨he, hI⟩ => ?_
  subst he
  exact ⟨_, rfl, _, _, _, [], _, [], hW', trodAll_mk1 (shut_bool Tryd.underlying4 _), hback _ (below_of_inv hI), rfl, (below_of_inv hI).frame _, fun h => by cases h⟩

theorem backfillFills_said : Rows.BackfillFillsSaid :=
  OpenClaim.holds_of_cond 3 Tryd.f3 rfl rfl rfl rfl rfl rfl rfl ⟨rfl, rfl, rfl, rfl, rfl⟩ rfl rfl rfl rfl rfl (by kernel_rfl) Tryd.func3 (by kernel_rfl)
    (of_decide_eq_true (by kernel_rfl)) (by unfold Func.isWrapper; first | (rw [if_pos (by decide +kernel)]; kernel_rfl) | (rw [if_neg (by decide +kernel)]; exact ⟨rfl, rfl⟩))
    (fun os started H enc _ F => by rw [OpenClaim.pre_eq_preRow]; exact backfillFills_lifted os started H enc F)

theorem backfillFills_plain (f : FuncId) (fn : Func) (hf : Tryd.pinned.checked.prog.funcNamed "hindcast/hindcastlaw28.BackfillFills" = some f) (hfn : Tryd.pinned.checked.prog.funcs[f]? = some fn) :
    false = Tryd.pinned.checked.prog.looks [] ∧ ∀ (j : Nat) t, fn.params[j]? = some t → Tryd.pinned.checked.prog.wantsStandIn t = false := by
  obtain rfl : f = 3 := Option.some.inj ((show Tryd.prog.funcNamed "hindcast/hindcastlaw28.BackfillFills" = some 3 by kernel_rfl).symm.trans hf) |>.symm
  obtain rfl : fn = Tryd.f3 := (Option.some.inj (Tryd.func3.symm.trans hfn)).symm
  refine ⟨by kernel_rfl, fun j t ht => ?_⟩
  rw [Tryd.params3] at ht
  have hm : t ∈ [25, 5, 4] := by simpa using Array.mem_of_getElem? ht
  have hall : ([25, 5, 4].all fun u => !Tryd.prog.wantsStandIn u) = true := by kernel_rfl
  exact (show Tryd.prog.wantsStandIn t = false by simpa using List.all_eq_true.1 hall t hm)

theorem backfillFills_holds : Rows.BackfillFillsCardSaid :=
  Claim7.holds_tied_plain_at .later [] _ _ _ _ backfillFills_said (fun _ h => by cases h) (by kernel_rfl) (fun _ h => by cases h) backfillFills_row_tie rfl ⟨rfl, rfl⟩ (by kernel_rfl) rfl backfillFills_plain (by kernel_rfl)

end Go.Proofs.YtkdbpenjkcjimaaDoor
