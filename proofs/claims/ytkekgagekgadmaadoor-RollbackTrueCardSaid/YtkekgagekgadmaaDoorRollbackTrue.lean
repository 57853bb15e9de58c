/-
  Chapter 26: the law RollbackTrue: what is confirmed is the fold of the true pairs, what is shown that of what is known and foretold.
-/
import Derived.Test.YtkekgagekgadmaaDoorRollPure
import Derived.Test.YtkekgagekgadmaaDoorStateRow
import Derived.Test.YtkekgagekgadmaaDoorCards
import Derived.Test.YtkekgagekgadmaaDoorTie
import Derived.Test.YtkekgagekgadmaaDoorLaid
import Derived.Test.YtkekgagekgadmaaDoorWalk
import Derived.Deep.DeepHandedRow
namespace Go.Proofs.YtkekgagekgadmaaDoor
open Go.Proofs.YtkekgagekgadmaaDoor.Eng Go.RowKit Go.ChangeShapes Go.WideShapes Go.ChangeAt
set_option linter.unusedSimpArgs false
set_option linter.unusedVariables false
set_option maxHeartbeats 2000000
set_option maxRecDepth 20000

variable {F : Nat}

def atg (l : List Int) (f : Nat) : Int := if f < l.length then Int.tmod (l.getD f 0) 64 else 0
theorem at_of (l : List Int) (f : Nat) : m_hindcastlaw26_at F l (f : Int) = some (atg l f) := by
  unfold m_hindcastlaw26_at atg
  by_cases h : f < l.length
  · rw [if_pos h, decide_eq_true (show (f : Int) < (l.length : Int) by omega), cond_true, getI_nat, List.getElem?_eq_getElem h, List.getD_eq_getElem?_getD, List.getElem?_eq_getElem h]
    rfl
  · rw [if_neg h, decide_eq_false (show ¬ (f : Int) < (l.length : Int) by omega), cond_false]
theorem atg_lt (l : List Int) (f : Nat) : atg l f < 64 := by
  unfold atg
  split
  · exact Int.tmod_lt_of_pos _ (by omega)
  · omega
theorem addv_new {b k : Nat} {L : List Int} {p : Nat} {i : Int} (hi : i < 64) (hk : k ≤ L.length) (hp : p = b + L.length) (hu : p < 18446744073709551615) (h24 : L.length - k < 24) : addv b k L p i = (L ++ [i], 0) := by
  unfold addv
  rw [if_neg (by omega), if_neg (by omega), if_neg (by omega), if_neg (by omega), if_neg (by omega)]

theorem u64_n {j : Nat} (h : j ≤ 1000000) : IntKind.wrap .u64 (j : Int) = (j : Int) := wr_u64 ⟨by omega, by omega⟩
theorem i64_s {j : Nat} (h : j ≤ 1000000) : IntKind.wrap .i64 ((j : Int) + 1) = ((j + 1 : Nat) : Int) := by rw [wr_i64 ⟨by omega, by omega⟩]; omega

theorem i64_d {a b : Nat} (h : b ≤ a) (ha : a ≤ 1000000) : IntKind.wrap .i64 ((a : Int) - (b : Int)) = ((a - b : Nat) : Int) := by rw [wr_i64 ⟨by omega, by omega⟩]; omega

/-! ### The game -/
def mine (g : T_hindcastlaw26_Game) (f : Nat) : Int := atg g.Mine f
def theirs (g : T_hindcastlaw26_Game) (f : Nat) : Int := atg g.Theirs f
def plg (g : T_hindcastlaw26_Game) : Int := Int.tmod g.Player 2
def tp (g : T_hindcastlaw26_Game) (f : Nat) : Int × Int := pr (plg g) (mine g f) (theirs g f)
def thL (g : T_hindcastlaw26_Game) (n : Nat) : List Int := (List.range n).map (theirs g)
def ownL (g : T_hindcastlaw26_Game) (c n : Nat) : List Int := (List.range' c n).map (mine g)
def tps (g : T_hindcastlaw26_Game) (c : Nat) : List (Int × Int) := (List.range c).map (tp g)
def fp (g : T_hindcastlaw26_Game) (known f : Nat) : Int × Int := pr (plg g) (mine g f) (gs (thL g known) f)

section
variable {g : T_hindcastlaw26_Game}
theorem thL_length (n : Nat) : (thL g n).length = n := by simp [thL]
theorem thL_succ (n : Nat) : thL g (n + 1) = thL g n ++ [theirs g n] := by simp [thL, List.range_succ]
theorem tps_succ (n : Nat) : tps g (n + 1) = tps g n ++ [tp g n] := by simp [tps, List.range_succ]
theorem tps_length (n : Nat) : (tps g n).length = n := by simp [tps]
theorem ownL_length (c n : Nat) : (ownL g c n).length = n := by simp [ownL]
theorem ownL_app (c n : Nat) : ownL g c n ++ [mine g (c + n)] = ownL g c (n + 1) := by
  simp [ownL, List.range'_concat]
theorem ownL_cons (c n : Nat) : ownL g c (n + 1) = mine g c :: ownL g (c + 1) n := by
  simp [ownL, List.range'_succ]
theorem gs_thL {n f : Nat} : gs (thL g n) f = if f < n then theirs g f else if 0 < n then theirs g (n - 1) else 0 := by
  unfold gs
  rw [thL_length]
  by_cases h : f < n
  · rw [if_pos h, if_pos h, List.getD_eq_getElem?_getD]
    simp [thL, h]
  · rw [if_neg h, if_neg h]
    cases n with
    | zero => rfl
    | succ n => rw [thL_succ]; simp
theorem getD_thL {n f : Nat} (h : f < n) : (thL g n).getD f 0 = theirs g f := by
  rw [List.getD_eq_getElem?_getD]
  simp [thL, h]
theorem prs_own (known : Nat) : ∀ (n c : Nat), prs (plg g) (thL g known) c (ownL g c n) = (List.range' c n).map (fp g known)
  | 0, c => rfl
  | n + 1, c => by
    rw [ownL_cons, prs, prs_own known n (c + 1), List.range'_succ, List.map_cons]
    rfl

theorem gpair_of (hp : plg g = 0 ∨ plg g = 1) (f : Nat) : m_hindcastlaw26_Game_pair F g (f : Int) = some (tp g f) := by
  unfold m_hindcastlaw26_Game_pair tp mine theirs
  have hq : Int.tmod g.Player 2 = plg g := rfl
  rw [hq]
  simp only [at_of, Option.bind_some]
  rcases hp with h | h <;> rw [h] <;> rfl
theorem gpairs_loop (hp : plg g = 0 ∨ plg g = 1) {n : Nat} (hn : n ≤ 1000) : ∀ (m i : Nat), n - i < m → i ≤ n → m_hindcastlaw26_Game_pairs_L8 F g (n : Int) m (tps g i) (i : Int) = some (tps g n)
  | 0, i, h, _ => by omega
  | m + 1, i, h, hi => by
    rw [m_hindcastlaw26_Game_pairs_L8.eq_2]
    by_cases hlt : i < n
    · have hap : appI (tps g i) [tp g i] = some (tps g (i + 1)) := by
        rw [appI_of (by rw [tps_length]; simp; omega), tps_succ]
      rw [decide_eq_true (show (i : Int) < (n : Int) by omega), cond_true]
      simp only [gpair_of (F := F) hp, Option.bind_some, hap, i64_s (show i ≤ 1000000 by omega)]
      exact gpairs_loop hp hn m (i + 1) (by omega) hlt
    · obtain rfl : i = n := by omega
      rw [decide_eq_false (show ¬ (i : Int) < (i : Int) by omega), cond_false]
theorem gpairs_of (hp : plg g = 0 ∨ plg g = 1) {n : Nat} (hn : n ≤ 1000) (hF : 1010 ≤ F) : m_hindcastlaw26_Game_pairs F g (n : Int) = some (tps g n) := by
  unfold m_hindcastlaw26_Game_pairs
  have := gpairs_loop (F := F) hp hn F 0 (by omega) (by omega)
  rw [show ((0 : Nat) : Int) = 0 from rfl, show tps g 0 = [] from rfl] at this
  rw [this]
  rfl

theorem gguess (hp : plg g = 0 ∨ plg g = 1) {known : Nat} (f : Nat) (hk : known ≤ 1000) :
    (cond (decide ((known : Int) ≤ (f : Int))) (cond ((IntKind.wrap .u8 ((1 : Int) - (Int.tmod g.Player 2))) == (0 : Int)) ((cond (decide ((0 : Int) < (known : Int))) (Option.bind (m_hindcastlaw26_at F g.Theirs (IntKind.wrap .i64 ((known : Int) - (1 : Int)))) fun v46 => some (v46, (tp g f).2)) (some ((0 : Int), (tp g f).2)))) (cond ((IntKind.wrap .u8 ((1 : Int) - (Int.tmod g.Player 2))) == (1 : Int)) ((cond (decide ((0 : Int) < (known : Int))) (Option.bind (m_hindcastlaw26_at F g.Theirs (IntKind.wrap .i64 ((known : Int) - (1 : Int)))) fun v46 => some ((tp g f).1, v46)) (some ((tp g f).1, (0 : Int))))) none)) (some (tp g f))) = some (fp g known f) := by
  have hq : Int.tmod g.Player 2 = plg g := rfl
  unfold fp
  rw [gs_thL]
  by_cases h : known ≤ f
  · rw [decide_eq_true (show (known : Int) ≤ (f : Int) by omega), cond_true, if_neg (by omega), hq]
    by_cases h0 : 0 < known
    · have w : IntKind.wrap .i64 ((known : Int) - (1 : Int)) = ((known - 1 : Nat) : Int) := by rw [wr_i64 ⟨by omega, by omega⟩]; omega
      rw [if_pos h0, decide_eq_true (show (0 : Int) < (known : Int) by omega), w, at_of]
      unfold tp
      rcases hp with h | h <;> rw [h] <;> rfl
    · rw [if_neg h0, decide_eq_false (show ¬ (0 : Int) < (known : Int) by omega)]
      unfold tp
      rcases hp with h | h <;> rw [h] <;> rfl
  · rw [decide_eq_false (show ¬ (known : Int) ≤ (f : Int) by omega), cond_false, if_pos (by omega)]
    rfl

theorem gshown_loop (hp : plg g = 0 ∨ plg g = 1) (hF : 1010 ≤ F) {known t : Nat} (hk : known ≤ 1000) (ht : t ≤ 1000) : ∀ (m f : Nat) (s : T_api_State), t - f < m → f ≤ t → StOk s → s.Shots.length ≤ 100 →
    m_hindcastlaw26_Game_shown_L8 F g (t : Int) (known : Int) m (f : Int) s.Frame s.Seed s.Players s.Shots s.Score = some ((foldv s ((List.range' f (t - f)).map (fp g known))).Frame, (foldv s ((List.range' f (t - f)).map (fp g known))).Seed, (foldv s ((List.range' f (t - f)).map (fp g known))).Players, (foldv s ((List.range' f (t - f)).map (fp g known))).Shots, (foldv s ((List.range' f (t - f)).map (fp g known))).Score)
  | 0, f, s, h, _, _, _ => by omega
  | m + 1, f, s, h, hf, ho, hs => by
    rw [m_hindcastlaw26_Game_shown_L8.eq_2]
    by_cases hlt : f < t
    · have hr : (List.range' f (t - f)).map (fp g known) = fp g known f :: (List.range' (f + 1) (t - (f + 1))).map (fp g known) := by
        rw [show t - f = (t - (f + 1)) + 1 by omega, List.range'_succ, List.map_cons]
      have hfo := fold_of (F := F) (s := s) (l := [fp g known f]) ho hs (by simp) (by omega) (by simp; omega)
      obtain ⟨o1, o2⟩ := foldv_ok (l := [fp g known f]) ho hs
      have ih := gshown_loop hp hF hk ht m (f + 1) (foldv s [fp g known f]) (by omega) hlt o1 o2
      have hfo' : m_fold_Fold F (T_api_State.mk s.Frame s.Seed s.Players s.Shots s.Score) [fp g known f] = _ := hfo
      rw [decide_eq_true (show (f : Int) < (t : Int) by omega), cond_true, gpair_of hp]
      simp only [Option.bind_some]
      rw [gguess hp f hk]
      simp only [Option.bind_some, hfo', i64_s (show f ≤ 1000000 by omega)]
      rw [ih, hr]
      rfl
    · obtain rfl : f = t := by omega
      rw [decide_eq_false (show ¬ (f : Int) < (f : Int) by omega), cond_false, Nat.sub_self]
      rfl

/-! ### What holds all along -/
structure GI (g : T_hindcastlaw26_Game) (x : T_rollback_Engine) (q : T_queue_Queue) (r : T_ring_Ring) (c t known : Nat) : Prop where
  ei : EI x q r 0 c (thL g known)
  pl : x.player = plg g
  w : x.window = 1 + g.Window % 12
  own : x.own = ownL g c (t - c)
  sure : x.sure = foldv (startS g.Seed) (tps g c)
  ct : c ≤ t
variable {x : T_rollback_Engine} {q : T_queue_Queue} {r : T_ring_Ring} {c t known : Nat}
theorem GI.ck (H : GI g x q r c t known) : c ≤ known := by have := H.ei.hk; rw [thL_length] at this; exact this
theorem GI.tw (H : GI g x q r c t known) : ((t - c : Nat) : Int) ≤ 1 + g.Window % 12 := by have := H.ei.ow; rw [H.own, ownL_length, H.w] at this; exact this
theorem gi_shw (H : GI g x q r c t known) : shw x.sure x.player (thL g known) c x.own x.own.length = foldv x.sure ((List.range' c (t - c)).map (fp g known)) := by
  unfold shw
  rw [H.pl, H.own, ownL_length, prs_own, List.take_of_length_le (by simp)]
theorem gshown_of (H : GI g x q r c t known) (hs : 0 ≤ g.Seed ∧ g.Seed ≤ 18446744073709551615) (hF : 1010 ≤ F) (hk : known ≤ 300) (ht : t ≤ 300) : m_hindcastlaw26_Game_shown F g (c : Int) (t : Int) (known : Int) = some (foldv x.sure ((List.range' c (t - c)).map (fp g known))) := by
  have hp : plg g = 0 ∨ plg g = 1 := by rw [← H.pl]; exact H.ei.pl
  have hct := H.ct
  unfold m_hindcastlaw26_Game_shown
  have hf := fold_of (F := F) (l := tps g c) (start_ok hs) (show (startS g.Seed).Shots.length ≤ 100 from Nat.zero_le _) (by rw [tps_length]; omega) (by omega) (by rw [tps_length]; omega)
  rw [← H.sure] at hf
  have hl := gshown_loop (F := F) hp hF (known := known) (t := t) (by omega) (by omega) F c x.sure (by omega) hct H.ei.so (by have := stGood_leI H.ei.sg; omega)
  simp only [start_is (F := F) (show 3 ≤ F by omega), Option.bind_some, gpairs_of (F := F) hp (show c ≤ 1000 by omega) hF, hf, hl]

/-- What is asked behind each act. -/
theorem tail_ok (H : GI g x q r c t known) (hs : 0 ≤ g.Seed ∧ g.Seed ≤ 18446744073709551615) (hF : 1010 ≤ F) (hk : known ≤ 300) (ht : t ≤ 300) (bb : Bool) : ∃ r', GI g x q r' c t known ∧ ∀ {α : Type} (κ : Int → Arr T_ring_place 14 → Option (α ⊕ Bool)),
    (Option.bind (m_rollback_Engine_C F x q r) fun v150 => (Option.bind (cond (v150 != (c : Int)) (some (true)) ((Option.bind (m_rollback_Engine_T F x q r) fun v156 => some ((v156 != (t : Int)))))) fun v160 => (Option.bind (cond v160 (some (true)) ((Option.bind (m_rollback_Engine_Known F x q r) fun v163 => some ((v163 != (known : Int)))))) fun v167 => (Option.bind (cond v167 (some (true)) (some ((decide ((1 + g.Window % 12) < ((t - c : Nat) : Int)))))) fun v174 => (cond v174 (some (.inr false)) (Option.bind (cond bb ((Option.bind (m_rollback_Engine_Shown F x q r) fun (o180_2, v180) => (Option.bind (m_hindcastlaw26_Game_shown F g (c : Int) (t : Int) (known : Int)) fun v185 => (Option.bind (m_state_Same F v180 v185) fun v186 => some ((!v186), o180_2.size, o180_2.places))))) (some (false, r.size, r.places))) fun (v188, g0, g1) => (cond v188 (some (.inr false)) (κ g0 g1)))))))) = κ r'.size r'.places := by
  have htw := H.tw
  have hct := H.ct
  have e1 : m_rollback_Engine_C F x q r = some (c : Int) := by rw [C_of, H.ei.fr, Nat.zero_add]
  have e2 : m_rollback_Engine_T F x q r = some (t : Int) := by rw [T_of H.ei, H.ei.fr, H.own, ownL_length]; congr 1; omega
  have e3 : m_rollback_Engine_Known F x q r = some (known : Int) := by rw [Known_of H.ei, thL_length, Nat.zero_add]
  cases bb with
  | false =>
    refine ⟨r, H, fun κ => ?_⟩
    simp only [e1, e2, e3, Option.bind_some, bne_self_eq_false, cond_false, decide_eq_false (show ¬ (1 + g.Window % 12) < ((t - c : Nat) : Int) by omega)]
  | true =>
    obtain ⟨r', e4, H4⟩ := shown_of (F := F) H.ei hF
    rw [gi_shw H] at e4
    have e5 := gshown_of (F := F) H hs hF hk ht
    have hgood : (foldv x.sure ((List.range' c (t - c)).map (fp g known))).Shots.length ≤ 100 := by
      rw [← gi_shw H]
      have := stGood_leI (H.ei.fs.f _ (Nat.le_refl _)).2.2
      omega
    have e6 : m_state_Same F (foldv x.sure ((List.range' c (t - c)).map (fp g known))) (foldv x.sure ((List.range' c (t - c)).map (fp g known))) = some true := by
      rw [same_of (by omega) (by omega), stE_refl]
    refine ⟨r', ⟨H4, H.pl, H.w, H.own, H.sure, H.ct⟩, fun κ => ?_⟩
    simp only [e1, e2, e3, e4, e5, e6, Option.bind_some, bne_self_eq_false, cond_false, cond_true, Bool.not_true, decide_eq_false (show ¬ (1 + g.Window % 12) < ((t - c : Nat) : Int) by omega)]

/-- The other one's input of a frame that is known, or the next one. -/
theorem addv_th {f : Nat} (hc : c ≤ known) (hk : known ≤ 300) : ∃ e, addv 0 c (thL g known) f (theirs g f) = (if f = known ∧ e = 0 then thL g (known + 1) else thL g known, e) ∧ (f < known → e = 0) := by
  have h64 := atg_lt g.Theirs f
  have h64' : ¬ 64 ≤ theirs g f := by unfold theirs; omega
  unfold addv
  rw [if_neg h64', thL_length]
  by_cases h1 : f < 0 + c
  · rw [if_pos h1]
    exact ⟨0, by rw [if_neg (by omega)], fun _ => rfl⟩
  · rw [if_neg h1]
    by_cases h2 : f < 0 + known
    · rw [if_pos h2, if_neg (by rw [Nat.sub_zero, getD_thL (by omega)]; simp)]
      exact ⟨0, by rw [if_neg (by omega)], fun _ => rfl⟩
    · rw [if_neg h2]
      by_cases h3 : f ≠ 0 + known ∨ f = 18446744073709551615
      · rw [if_pos h3]
        exact ⟨11, by rw [if_neg (by omega)], fun h => by omega⟩
      · rw [if_neg h3]
        by_cases h4 : 24 ≤ known - c
        · rw [if_pos h4]
          exact ⟨7, by rw [if_neg (by omega)], fun h => by omega⟩
        · rw [if_neg h4]
          refine ⟨0, ?_, fun h => by omega⟩
          rw [if_pos (by omega), show f = known by omega, thL_succ]

theorem wrap_u8 (z : Int) : 0 ≤ IntKind.wrap .u8 z ∧ IntKind.wrap .u8 z ≤ 255 := by
  simp only [IntKind.wrap, IntKind.bits, IntKind.signed]; simp; omega

theorem true_loop (hs : 0 ≤ g.Seed ∧ g.Seed ≤ 18446744073709551615) (hw0 : IntKind.wrap .i64 ((1 : Int) + (IntKind.wrap .i64 (Int.tmod g.Window 12))) = 1 + g.Window % 12) (hF : 1010 ≤ F) {l : List Int} (hl : l.length ≤ 200) : ∀ (m i c t known : Nat) (x : T_rollback_Engine) (q : T_queue_Queue) (r : T_ring_Ring), l.length - i < m → i ≤ l.length → GI g x q r c t known → t ≤ i → known ≤ i →
    ∃ c' t' known' x' q' r', m_hindcastlaw26_RollbackTrue_L28 F g l m (c : Int) (t : Int) (known : Int) (i : Int) x.player x.window x.sure.Frame x.sure.Seed x.sure.Players x.sure.Shots x.sure.Score x.own q.first_ q.l q.last r.size r.places =
      some (.inl (false, ((c' : Nat) : Int), ((t' : Nat) : Int), ((known' : Nat) : Int), x'.player, x'.window, x'.sure.Frame, x'.sure.Seed, x'.sure.Players, x'.sure.Shots, x'.sure.Score, x'.own, q'.first_, q'.l, q'.last, r'.size, r'.places)) ∧
      GI g x' q' r' c' t' known' ∧ t' ≤ 200 ∧ known' ≤ 200
  | 0, i, c, t, known, x, q, r, h, _, _, _, _ => by omega
  | m + 1, i, c, t, known, x, q, r, h, hi, H, hti, hki => by
    rw [m_hindcastlaw26_RollbackTrue_L28.eq_2]
    by_cases hlt : i < l.length
    · have hx : l[i]? = some l[i] := List.getElem?_eq_getElem hlt
      have hct := H.ct
      have hck := H.ck
      have htw := H.tw
      have hp : plg g = 0 ∨ plg g = 1 := by rw [← H.pl]; exact H.ei.pl
      have hxw : x.window = 1 + g.Window % 12 := H.w
      have hol : x.own.length = t - c := by rw [H.own, ownL_length]
      obtain ⟨bb, hbb⟩ : ∃ bb, (Int.tmod (IntKind.wrap .i64 (IntKind.wrap .u8 (Int.tdiv l[i] 4))) 3 == (0 : Int)) = bb := ⟨_, rfl⟩
      rw [decide_eq_true (show (i : Int) < (l.length : Int) by omega), cond_true, getI_nat, hx]
      simp only [Option.bind_some, hw0, hbb, u64_n (show c ≤ 1000000 by omega), u64_n (show t ≤ 1000000 by omega), u64_n (show known ≤ 1000000 by omega), i64_d hct (show t ≤ 1000000 by omega), i64_s (show c ≤ 1000000 by omega), i64_s (show t ≤ 1000000 by omega), i64_s (show known ≤ 1000000 by omega), i64_s (show i ≤ 1000000 by omega), u64_n (show t + 1 ≤ 1000000 by omega), u64_n (show c + 1 ≤ 1000000 by omega), i64_d (show c ≤ t + 1 by omega) (show t + 1 ≤ 1000000 by omega), at_of]
      by_cases a0 : Int.tmod l[i] 4 = 0
      · rw [show (Int.tmod l[i] 4 == 0) = true by simpa using a0, cond_true]
        by_cases hfull : t - c < (1 + g.Window % 12).toNat
        · obtain ⟨e1, H1⟩ := local_ok (F := F) H.ei (atg_lt g.Mine t) (by rw [hol, hxw]; omega)
          have e1' : m_rollback_Engine_Local F (T_rollback_Engine.mk x.player x.window (T_api_State.mk x.sure.Frame x.sure.Seed x.sure.Players x.sure.Shots x.sure.Score) x.own) (T_queue_Queue.mk q.first_ q.l q.last) (T_ring_Ring.mk r.size r.places) (atg g.Mine t) = _ := e1
          have G1 : GI g ⟨x.player, x.window, x.sure, x.own ++ [atg g.Mine t]⟩ q r c (t + 1) known := ⟨H1, H.pl, H.w, by
            show x.own ++ [atg g.Mine t] = _
            have := ownL_app (g := g) c (t - c)
            rw [show c + (t - c) = t by omega] at this
            rw [H.own, show t + 1 - c = (t - c) + 1 by omega, ← this]
            rfl, H.sure, by omega⟩
          obtain ⟨r', G2, hT⟩ := tail_ok (F := F) G1 hs hF (by omega) (by omega) bb
          obtain ⟨c', t', known', x', q', r'', e5, R1, R2, R3⟩ := true_loop hs hw0 hF hl m (i + 1) c (t + 1) known _ q r' (by omega) (by omega) G2 (by omega) (by omega)
          refine ⟨c', t', known', x', q', r'', ?_, R1, R2, R3⟩
          rw [← e5, e1']
          simp only [Option.bind_some, show ((0 : Int) == 0) = true from rfl, decide_eq_true (show ((t - c : Nat) : Int) < 1 + g.Window % 12 by omega), bne_self_eq_false, cond_false, cond_true]
          exact hT (fun sz pl => m_hindcastlaw26_RollbackTrue_L28 F g l m (c : Int) ((t + 1 : Nat) : Int) (known : Int) ((i + 1 : Nat) : Int) x.player x.window x.sure.Frame x.sure.Seed x.sure.Players x.sure.Shots x.sure.Score (x.own ++ [atg g.Mine t]) q.first_ q.l q.last sz pl)
        · have e1 := local_full (F := F) x q r (atg_lt g.Mine t) (by rw [hol, hxw]; omega)
          have e1' : m_rollback_Engine_Local F (T_rollback_Engine.mk x.player x.window (T_api_State.mk x.sure.Frame x.sure.Seed x.sure.Players x.sure.Shots x.sure.Score) x.own) (T_queue_Queue.mk q.first_ q.l q.last) (T_ring_Ring.mk r.size r.places) (atg g.Mine t) = _ := e1
          obtain ⟨r', G2, hT⟩ := tail_ok (F := F) H hs hF (by omega) (by omega) bb
          obtain ⟨c', t', known', x', q', r'', e5, R1, R2, R3⟩ := true_loop hs hw0 hF hl m (i + 1) c t known _ q r' (by omega) (by omega) G2 (by omega) (by omega)
          refine ⟨c', t', known', x', q', r'', ?_, R1, R2, R3⟩
          rw [← e5, e1']
          simp only [Option.bind_some, show ((7 : Int) == 0) = false from rfl, decide_eq_false (show ¬ ((t - c : Nat) : Int) < 1 + g.Window % 12 by omega), bne_self_eq_false, cond_false, cond_true]
          exact hT (fun sz pl => m_hindcastlaw26_RollbackTrue_L28 F g l m (c : Int) (t : Int) (known : Int) ((i + 1 : Nat) : Int) x.player x.window x.sure.Frame x.sure.Seed x.sure.Players x.sure.Shots x.sure.Score x.own q.first_ q.l q.last sz pl)
      · rw [show (Int.tmod l[i] 4 == 0) = false by simpa using a0, cond_false]
        by_cases a1 : Int.tmod l[i] 4 = 1 ∨ Int.tmod l[i] 4 = 2
        · have hj : (cond (Int.tmod l[i] 4 == 1) (some (Int.tmod l[i] 4 == 1)) (some (Int.tmod l[i] 4 == 2))) = some true := by
            rcases a1 with a1 | a1 <;> rw [a1] <;> rfl
          rw [hj]
          simp only [Option.bind_some, cond_true]
          have hwu := wrap_u8 (Int.tdiv l[i] 4)
          have hwi : IntKind.wrap .i64 (IntKind.wrap .u8 (Int.tdiv l[i] 4)) = IntKind.wrap .u8 (Int.tdiv l[i] 4) := wr_i64 ⟨by omega, by omega⟩
          have hte : Int.tmod (IntKind.wrap .u8 (Int.tdiv l[i] 4)) 4 = IntKind.wrap .u8 (Int.tdiv l[i] 4) % 4 := Int.tmod_eq_emod_of_nonneg hwu.1
          obtain ⟨f, hf⟩ : ∃ f : Nat, (max (0 : Int) (IntKind.wrap .i64 (((known + 1 : Nat) : Int) - (Int.tmod (IntKind.wrap .i64 (IntKind.wrap .u8 (Int.tdiv l[i] 4))) 4)))) = (f : Int) ∧ f ≤ 1000 := by
            refine ⟨(known + 1) - (IntKind.wrap .u8 (Int.tdiv l[i] 4) % 4).toNat, ?_, by omega⟩
            rw [hwi, hte, wr_i64 ⟨by omega, by omega⟩]
            omega
          obtain ⟨hf, hf1⟩ := hf
          rw [hf]
          simp only [at_of, u64_n (show f ≤ 1000000 by omega), Option.bind_some]
          obtain ⟨e, he1, he2⟩ := addv_th (g := g) (f := f) hck (show known ≤ 300 by omega)
          obtain ⟨r3, e3, H3⟩ := remote_of (F := F) H.ei hF (by rw [thL_length]; omega) f (theirs g f)
          rw [he1] at e3 H3
          have e3' : m_rollback_Engine_Remote F (T_rollback_Engine.mk x.player x.window (T_api_State.mk x.sure.Frame x.sure.Seed x.sure.Players x.sure.Shots x.sure.Score) x.own) (T_queue_Queue.mk q.first_ q.l q.last) (T_ring_Ring.mk r.size r.places) (f : Int) (atg g.Theirs f) = _ := e3
          rw [e3']
          simp only [Option.bind_some]
          by_cases hnew : f = known ∧ e = 0
          · rw [if_pos hnew] at H3 ⊢
            obtain ⟨hn1, hn2⟩ := hnew
            subst hn1
            subst hn2
            have G1 : GI g x (qOf 0 c (thL g (f + 1))) r3 c t (f + 1) := ⟨H3, H.pl, H.w, H.own, H.sure, H.ct⟩
            obtain ⟨r', G2, hT⟩ := tail_ok (F := F) G1 hs hF (by omega) (by omega) bb
            obtain ⟨c', t', known', x', q', r'', e5, R1, R2, R3⟩ := true_loop hs hw0 hF hl m (i + 1) c t (f + 1) _ _ r' (by omega) (by omega) G2 (by omega) (by omega)
            refine ⟨c', t', known', x', q', r'', ?_, R1, R2, R3⟩
            rw [← e5]
            simp only [show ((0 : Int) == 0) = true from rfl, beq_self_eq_true, cond_true, Option.bind_some, show ((0 : Int) != 0) = false from rfl, cond_false, u64_n (show f + 1 ≤ 1000000 by omega)]
            exact hT (fun sz pl => m_hindcastlaw26_RollbackTrue_L28 F g l m (c : Int) (t : Int) ((f + 1 : Nat) : Int) ((i + 1 : Nat) : Int) x.player x.window x.sure.Frame x.sure.Seed x.sure.Players x.sure.Shots x.sure.Score x.own (qOf 0 c (thL g (f + 1))).first_ (qOf 0 c (thL g (f + 1))).l (qOf 0 c (thL g (f + 1))).last sz pl)
          · rw [if_neg hnew] at H3 ⊢
            have G1 : GI g x (qOf 0 c (thL g known)) r3 c t known := ⟨H3, H.pl, H.w, H.own, H.sure, H.ct⟩
            obtain ⟨r', G2, hT⟩ := tail_ok (F := F) G1 hs hF (by omega) (by omega) bb
            obtain ⟨c', t', known', x', q', r'', e5, R1, R2, R3⟩ := true_loop hs hw0 hF hl m (i + 1) c t known _ _ r' (by omega) (by omega) G2 (by omega) (by omega)
            refine ⟨c', t', known', x', q', r'', ?_, R1, R2, R3⟩
            rw [← e5]
            have b1 : (cond (e == 0) (some ((f : Int) == (known : Int))) (some false)) = some false := by
              by_cases h0 : e = 0
              · rw [h0]
                have : ((f : Int) == (known : Int)) = false := by
                  rw [beq_eq_false_iff_ne]
                  intro h
                  exact hnew ⟨by omega, h0⟩
                rw [this]
                rfl
              · rw [show (e == 0) = false by simpa using h0]; rfl
            have b2 : (cond (e != 0) (some (decide ((f : Int) < (known : Int)))) (some false)) = some false := by
              by_cases h0 : e = 0
              · rw [h0]; rfl
              · rw [decide_eq_false (show ¬ (f : Int) < (known : Int) from fun h => h0 (he2 (by omega)))]
                cases (e != 0) <;> rfl
            rw [b1]
            simp only [Option.bind_some, cond_false]
            rw [b2]
            simp only [Option.bind_some, cond_false, u64_n (show known ≤ 1000000 by omega)]
            exact hT (fun sz pl => m_hindcastlaw26_RollbackTrue_L28 F g l m (c : Int) (t : Int) (known : Int) ((i + 1 : Nat) : Int) x.player x.window x.sure.Frame x.sure.Seed x.sure.Players x.sure.Shots x.sure.Score x.own (qOf 0 c (thL g known)).first_ (qOf 0 c (thL g known)).l (qOf 0 c (thL g known)).last sz pl)
        · have hj : (cond (Int.tmod l[i] 4 == 1) (some (Int.tmod l[i] 4 == 1)) (some (Int.tmod l[i] 4 == 2))) = some false := by
            rw [show (Int.tmod l[i] 4 == 1) = false by simp; omega, show (Int.tmod l[i] 4 == 2) = false by simp; omega]
            rfl
          rw [hj]
          simp only [Option.bind_some, cond_false]
          have hfr := H.ei.fr
          by_cases hy : c < t ∧ c < known
          · have hoc : x.own = mine g c :: ownL g (c + 1) (t - (c + 1)) := by rw [H.own, show t - c = (t - (c + 1)) + 1 by omega, ownL_cons]
            obtain ⟨r4, e4, H4⟩ := confirm_yes (F := F) H.ei hF (f := ((c + 1 : Nat) : Int)) hoc (by rw [thL_length]; omega) (by omega)
            have e4' : m_rollback_Engine_Confirm F (T_rollback_Engine.mk x.player x.window (T_api_State.mk x.sure.Frame x.sure.Seed x.sure.Players x.sure.Shots x.sure.Score) x.own) (T_queue_Queue.mk q.first_ q.l q.last) (T_ring_Ring.mk r.size r.places) ((c + 1 : Nat) : Int) = _ := e4
            have hpr : pr x.player (mine g c) (gs (thL g known) c) = tp g c := by
              rw [gs_thL, if_pos hy.2, H.pl]
              rfl
            have hsu : shw x.sure x.player (thL g known) c x.own 1 = foldv (startS g.Seed) (tps g (c + 1)) := by
              rw [show (1 : Nat) = 0 + 1 from rfl, shw_next (o := mine g c) (by rw [hoc]; rfl), shw_zero, Nat.add_zero, hpr, tps_succ, foldv_append, ← H.sure]
              rfl
            rw [hpr] at e4'
            have G1 : GI g ⟨x.player, x.window, shw x.sure x.player (thL g known) c x.own 1, ownL g (c + 1) (t - (c + 1))⟩ (qOf 0 (c + 1) (thL g known)) r4 (c + 1) t known := ⟨H4, H.pl, H.w, rfl, hsu, by omega⟩
            obtain ⟨r', G2, hT⟩ := tail_ok (F := F) G1 hs hF (by omega) (by omega) bb
            obtain ⟨c', t', known', x', q', r'', e5, R1, R2, R3⟩ := true_loop hs hw0 hF hl m (i + 1) (c + 1) t known _ _ r' (by omega) (by omega) G2 (by omega) (by omega)
            refine ⟨c', t', known', x', q', r'', ?_, R1, R2, R3⟩
            rw [← e5, e4']
            simp only [Option.bind_some, decide_eq_true (show (c : Int) < (t : Int) by omega), decide_eq_true (show (c : Int) < (known : Int) by omega), cond_true, bne_self_eq_false, cond_false, gpair_of (F := F) hp, beq_self_eq_true, Bool.and_self, Bool.not_true, i64_d (show c + 1 ≤ t by omega) (show t ≤ 1000000 by omega)]
            exact hT (fun sz pl => m_hindcastlaw26_RollbackTrue_L28 F g l m ((c + 1 : Nat) : Int) (t : Int) (known : Int) ((i + 1 : Nat) : Int) x.player x.window (shw x.sure x.player (thL g known) c x.own 1).Frame (shw x.sure x.player (thL g known) c x.own 1).Seed (shw x.sure x.player (thL g known) c x.own 1).Players (shw x.sure x.player (thL g known) c x.own 1).Shots (shw x.sure x.player (thL g known) c x.own 1).Score (ownL g (c + 1) (t - (c + 1))) (qOf 0 (c + 1) (thL g known)).first_ (qOf 0 (c + 1) (thL g known)).l (qOf 0 (c + 1) (thL g known)).last sz pl)
          · have e4 := confirm_no (F := F) H.ei (f := ((c + 1 : Nat) : Int)) (by
              rw [thL_length]
              rcases Nat.lt_or_ge c t with h1 | h1
              · exact .inr (.inl (by omega))
              · refine .inl (List.eq_nil_of_length_eq_zero ?_)
                omega)
            have e4' : m_rollback_Engine_Confirm F (T_rollback_Engine.mk x.player x.window (T_api_State.mk x.sure.Frame x.sure.Seed x.sure.Players x.sure.Shots x.sure.Score) x.own) (T_queue_Queue.mk q.first_ q.l q.last) (T_ring_Ring.mk r.size r.places) ((c + 1 : Nat) : Int) = _ := e4
            obtain ⟨r', G2, hT⟩ := tail_ok (F := F) H hs hF (by omega) (by omega) bb
            obtain ⟨c', t', known', x', q', r'', e5, R1, R2, R3⟩ := true_loop hs hw0 hF hl m (i + 1) c t known _ q r' (by omega) (by omega) G2 (by omega) (by omega)
            refine ⟨c', t', known', x', q', r'', ?_, R1, R2, R3⟩
            have b1 : (cond (decide ((c : Int) < (t : Int))) (some (decide ((c : Int) < (known : Int)))) (some false)) = some false := by
              by_cases h1 : c < t
              · rw [decide_eq_true (show (c : Int) < (t : Int) by omega), decide_eq_false (show ¬ (c : Int) < (known : Int) by omega)]; rfl
              · rw [decide_eq_false (show ¬ (c : Int) < (t : Int) by omega)]; rfl
            rw [← e5, e4']
            simp only [Option.bind_some]
            rw [b1]
            simp only [Option.bind_some, bne_self_eq_false, cond_false]
            exact hT (fun sz pl => m_hindcastlaw26_RollbackTrue_L28 F g l m (c : Int) (t : Int) (known : Int) ((i + 1 : Nat) : Int) x.player x.window x.sure.Frame x.sure.Seed x.sure.Players x.sure.Shots x.sure.Score x.own q.first_ q.l q.last sz pl)
    · rw [decide_eq_false (show ¬ (i : Int) < (l.length : Int) by omega), cond_false]
      exact ⟨c, t, known, x, q, r, rfl, H, by omega, by omega⟩
end

theorem true_pure (hF : 1010 ≤ F) (hwk : m_hindcastlaw26_works F = some true) {g : T_hindcastlaw26_Game} {l : List Int} (hs : 0 ≤ g.Seed ∧ g.Seed ≤ 18446744073709551615) (hp : 0 ≤ g.Player ∧ g.Player ≤ 255) (hw : 0 ≤ g.Window ∧ g.Window ≤ 255) : m_hindcastlaw26_RollbackTrue F g l = some true := by
  unfold m_hindcastlaw26_RollbackTrue
  simp only [r_or, Option.bind_some]
  by_cases hg : (((decide ((100 : Int) < (g.Mine.length : Int))) || (decide ((100 : Int) < (g.Theirs.length : Int)))) || (decide ((200 : Int) < (l.length : Int)))) = true
  · rw [hg]
    simp only [Option.bind_some, cond_true, hwk]
  · rw [Bool.not_eq_true] at hg
    rw [hg]
    have hl : l.length ≤ 200 := by
      rw [Bool.or_eq_false_iff] at hg
      have := of_decide_eq_false hg.2
      omega
    have tp : Int.tmod g.Player 2 = 0 ∨ Int.tmod g.Player 2 = 1 := by
      rw [Int.tmod_eq_emod_of_nonneg hp.1]; omega
    have tw : Int.tmod g.Window 12 = g.Window % 12 := Int.tmod_eq_emod_of_nonneg hw.1
    have w1 : IntKind.wrap .i64 (Int.tmod g.Window 12) = g.Window % 12 := by rw [tw]; exact wr_i64 ⟨by omega, by omega⟩
    have w2 : IntKind.wrap .i64 (1 + g.Window % 12) = 1 + g.Window % 12 := wr_i64 ⟨by omega, by omega⟩
    obtain ⟨r0, e0, H0⟩ := new_ei (F := F) hF (w := 1 + g.Window % 12) (start_ok hs) (start_good g.Seed) (by show (0 : Int) ≤ _; omega) tp (by omega)
    have G0 : GI g ⟨Int.tmod g.Player 2, 1 + g.Window % 12, startS g.Seed, []⟩ (qOf (startS g.Seed).Frame.toNat 0 []) r0 0 0 0 := ⟨H0, rfl, rfl, rfl, rfl, Nat.le_refl _⟩
    obtain ⟨c, t, known, x1, q1, r1, e1, G1, ht, hk⟩ := true_loop (F := F) hs (by rw [w1, w2]) hF hl F 0 0 0 0 _ _ r0 (by omega) (by omega) G0 (by omega) (by omega)
    rw [show ((0 : Nat) : Int) = 0 from rfl] at e1
    have hct := G1.ct
    have hpl : plg g = 0 ∨ plg g = 1 := tp
    have e6 := State_of (F := F) G1.ei q1 r1
    obtain ⟨r7, e7, H7⟩ := shown_of (F := F) G1.ei hF
    rw [gi_shw G1] at e7
    have e8 := gshown_of (F := F) G1 hs hF (by omega) (by omega)
    have hgood : (foldv x1.sure ((List.range' c (t - c)).map (fp g known))).Shots.length ≤ 100 := by
      rw [← gi_shw G1]
      have := stGood_leI (G1.ei.fs.f _ (Nat.le_refl _)).2.2
      omega
    have s1 : m_state_Same F (foldv x1.sure ((List.range' c (t - c)).map (fp g known))) (foldv x1.sure ((List.range' c (t - c)).map (fp g known))) = some true := by
      rw [same_of (by omega) (by omega), stE_refl]
    have s2 : m_state_Same F x1.sure x1.sure = some true := by
      have := stGood_leI G1.ei.sg
      rw [same_of (by omega) (by omega), stE_refl]
    have hf := fold_of (F := F) (l := tps g c) (start_ok hs) (show (startS g.Seed).Shots.length ≤ 100 from Nat.zero_le _) (by rw [tps_length]; omega) (by omega) (by rw [tps_length]; omega)
    rw [← G1.sure] at hf
    have e6' : m_rollback_Engine_State F (T_rollback_Engine.mk x1.player x1.window (T_api_State.mk x1.sure.Frame x1.sure.Seed x1.sure.Players x1.sure.Shots x1.sure.Score) x1.own) (T_queue_Queue.mk q1.first_ q1.l q1.last) (T_ring_Ring.mk r1.size r1.places) = _ := e6
    have e7' : m_rollback_Engine_Shown F (T_rollback_Engine.mk x1.player x1.window (T_api_State.mk x1.sure.Frame x1.sure.Seed x1.sure.Players x1.sure.Shots x1.sure.Score) x1.own) (T_queue_Queue.mk q1.first_ q1.l q1.last) (T_ring_Ring.mk r1.size r1.places) = _ := e7
    simp only [cond_false, start_is (F := F) (show 3 ≤ F by omega), w1, w2, e0, poE, e1, orE_l, Option.bind_some, e6', gpairs_of (F := F) hpl (show c ≤ 1000 by omega) hF, hf, s2, cond_true, e7', e8, s1, hwk]

theorem true_works : m_hindcastlaw26_works 1010 = some true := by kernel_rfl

theorem inputs_rd {W : World} {m : Nat} {v : Value} (h : Rdw TT W (m + 3) 23 [v]) : ∃ (a : Option Addr) (n cap : Nat) (xs : List Int), v = .slice a n cap ∧ n = xs.length ∧ n ≤ cap ∧ Rds W [] [] a (flat (e1 .u8) xs) := by
  obtain ⟨a, n, cap, xs, hv, hn, hc, _, hr, _⟩ := rd_list (enc := e1 .u8) (ok := fun _ => True) h rfl rfl (e1_len _) (fun es hes h => by
    match es, hes with
    | [c], _ =>
      obtain ⟨x, rfl, wx⟩ := rd_cell h rfl
      exact ⟨x, rfl, trivial⟩)
  exact ⟨a, n, cap, xs, hv, hn, hc, hr⟩

theorem game_rd {W : World} {m : Nat} {cs : List Value} (h : Rdw TT W (m + 4) 25 cs) :
    ∃ (g : T_hindcastlaw26_Game) (a0 : Option Addr) (n0 c0 : Nat) (a1 : Option Addr) (n1 c1 : Nat), cs = [.int .u64 g.Seed, .int .u8 g.Player, .int .u8 g.Window, .slice a0 n0 c0, .slice a1 n1 c1] ∧ (n0 = g.Mine.length ∧ n0 ≤ c0 ∧ Rds W [] [] a0 (flat (e1 .u8) g.Mine)) ∧ (n1 = g.Theirs.length ∧ n1 ≤ c1 ∧ Rds W [] [] a1 (flat (e1 .u8) g.Theirs)) ∧
      (0 ≤ g.Seed ∧ g.Seed ≤ 18446744073709551615) ∧ (0 ≤ g.Player ∧ g.Player ≤ 255) ∧ (0 ≤ g.Window ∧ g.Window ≤ 255) := by
  obtain ⟨hl, hf⟩ := rd_struct h rfl
  match cs, hl with
  | [v0, v1, v2, v3, v4], _ =>
    obtain ⟨s, rfl, ws⟩ := rd_cell (hf (22, 0) (by simp)) rfl
    obtain ⟨p, rfl, wp⟩ := rd_cell (hf (5, 1) (by simp)) rfl
    obtain ⟨w, rfl, ww⟩ := rd_cell (hf (5, 2) (by simp)) rfl
    have h3 : Rdw TT W (m + 3) 23 [v3] := hf (23, 3) (by simp)
    have h4 : Rdw TT W (m + 3) 23 [v4] := hf (23, 4) (by simp)
    obtain ⟨a0, n0, c0, xs, rfl, hn0, hc0, hr0⟩ := inputs_rd h3
    obtain ⟨a1, n1, c1, ys, rfl, hn1, hc1, hr1⟩ := inputs_rd h4
    exact ⟨⟨s, p, w, xs, ys⟩, a0, n0, c0, a1, n1, c1, rfl, ⟨hn0, hc0, hr0⟩, ⟨hn1, hc1, hr1⟩, wf_u64 ws, wf_u8 wp, wf_u8 ww⟩

theorem rollbackTrue_walk (W : World) (hG : Rds W [] [] (some ⟨0, 0, none⟩) (flat (fun _ : Unit => gl_state_playerBounds) [()]) ∧ Rds W [] [] (some ⟨1, 0, none⟩) (flat (fun _ : Unit => gl_state_shotBounds) [()]))
    (c0 : List Value) (v1 : Value) (R0 : Rdw TT W 8 25 c0) (R1 : Rdw TT W 8 57 [v1]) :
    Calls Tryd.prog 5 #[.agg c0.toArray, v1] W fun e w' => e = .returned (.bool true) ∧ Inv W [] w' [] := by
  obtain ⟨g, a0, n0, c0, a1, n1, c1, rfl, ⟨hn0, hc0, hr0⟩, ⟨hn1, hc1, hr1⟩, hs, hp, hw⟩ := game_rd R0
  obtain ⟨a, n, cap, xs, rfl, hn, hc, _, hr, _⟩ := rd_list (enc := e1 .u8) (ok := fun _ => True) R1 rfl rfl (e1_len _) (fun es hes h => by
    match es, hes with
    | [c], _ =>
      obtain ⟨x, rfl, wx⟩ := rd_cell h rfl
      exact ⟨x, rfl, trivial⟩)
  exact (k_hindcastlaw26_RollbackTrue hn0 hc0 hn1 hc1 hn hc (true_pure (F := 1010) (by omega) true_works hs hp hw)).run W ⟨hr0, hr1, hr, hG⟩

noncomputable def rollbackTrue_world (os : Os) : World :=
  { World.holding Tryd.prog os ⟨#[], #[], []⟩ with heap := ((World.holding Tryd.prog os ⟨#[], #[], []⟩).heap.modify 0 fun | .cells _ t frozen => .cells gl_state_playerBounds.toArray t frozen | o => o).modify 1 fun | .cells _ t frozen => .cells gl_state_shotBounds.toArray t frozen | o => o }
theorem rollbackTrue_laid_met (os : Os) : laidMet Tryd.prog Rows.rollbackTrueRow.laid ((rollbackTrue_world os).forCall (fun _ _ => 0) ⟨#[], #[.agg #[(.int .u64 0), (.int .u8 0), (.int .u8 0), (.slice none 0 0), (.slice none 0 0)], .slice none 0 0], []⟩).memory := laidMet_of_run' 8 (by kernel_rfl) (by kernel_rfl)
theorem rollbackTrue_reads (os : Os) {H : Type} (enc : TypeId × Value → H) : ∃ places, DataW.whole enc Tryd.prog ((rollbackTrue_world os).forCall (fun _ _ => 0) ⟨#[], #[.agg #[(.int .u64 0), (.int .u8 0), (.int .u8 0), (.slice none 0 0), (.slice none 0 0)], .slice none 0 0], []⟩).memory Tryd.f5.params.toList Rows.rollbackTrueSpec.vars false (#[.agg #[(.int .u64 0), (.int .u8 0), (.int .u8 0), (.slice none 0 0), (.slice none 0 0)], .slice none 0 0] : Array Value).toList 8 = some ([.agg [.lit (.int .u64 0), .lit (.int .u8 0), .lit (.int .u8 0), .nil, .nil], .nil], [], places) := ⟨[], by kernel_rfl⟩
set_option maxRecDepth 100000 in
theorem rollbackTrue_lifted (os : Os) (started : os.Started) (H : Type) (enc : TypeId × Value → H) (F : Stop.Interp) :
    ReturnsInHanded {} Tryd.checked os 5 .any ((OpenSpec.ofChange Rows.rollbackTrueSpec).preRow enc Tryd.prog Tryd.f5 Rows.rollbackTrueRow.domain false Rows.rollbackTrueRow.laid) (((OpenSpec.ofChange Rows.rollbackTrueSpec).at F).post enc Tryd.prog Tryd.f5 false true false false) := by
  obtain ⟨places, hx⟩ := rollbackTrue_reads os enc
  refine returnsInHanded_of_row (C := Tryd.checked) (s := OpenSpec.ofChange Rows.rollbackTrueSpec) (by kernel_rfl) started (by kernel_rfl) Tryd.func5
    (witness_row_at (enc := enc) (C := Tryd.checked) false (rollbackTrue_world os) #[.agg #[(.int .u64 0), (.int .u8 0), (.int .u8 0), (.slice none 0 0), (.slice none 0 0)], .slice none 0 0] rfl (by kernel_rfl) (by kernel_rfl) (by kernel_rfl)
      (OpenSpec.preRow_of_cond 8 hx (by kernel_rfl) (fun k hk => by cases hk) (by kernel_rfl) (rollbackTrue_laid_met os))) ?_
  intro W base args ds gs before hval0 hW hcnd hk0 hsz0 hL _ _
  have hG := laid_cells hL
  have hval : ∀ (j : Nat) t v, Tryd.f5.params[j]? = some t → args[j]? = some v → Value.okWide Tryd.prog W .any base t v := hval0
  have hW' := hW
  obtain ⟨p, q, hA0, hV, rfl, hfz, hnd⟩ := hW
  have hA : DataW.TrodAll enc Tryd.prog W 0 (fun _ => true) true Tryd.f5.params.toList args.toList ds p := hA0
  obtain ⟨rfl, rfl⟩ := trodVars_none hV
  have hsz : ∀ x ∈ DataW.weightsEach Tryd.prog Tryd.f5.params.toList ds, x ≤ maxB := by
    have h1 : (DataW.weightsEach Tryd.prog (Tryd.f5.params.toList ++ []) (ds ++ [])).all (· ≤ reachBytes) = true := hsz0
    simp only [List.append_nil] at h1
    intro x hx; have h2 := List.all_eq_true.1 h1 x hx; simp only [decide_eq_true_eq] at h2; exact h2
  rw [Tryd.params5] at hA hval hsz
  have hR := rdw_all tt_ok ctt_ok (closed_of tt_closed) (fun _ => rfl) 8 hA hsz
  have hback := fun (W2 : World) (hb : Below W.heap.size W W2) => trodAll_below (by kernel_rfl : laidOutB Tryd.prog = true) hb (by kernel_rfl) hA
  obtain ⟨v0, vs0, d0, ds0, p0, q0, hargs, rfl, rfl, h0, r0⟩ := trodAll_cons hA
  obtain ⟨v1, vs1, d1, ds1, p1, q1, rfl, rfl, rfl, h1, r1⟩ := trodAll_cons r0
  obtain ⟨rfl, rfl, rfl⟩ := trodAll_nil r1
  obtain rfl : args = #[v0, v1] := by cases args; simp_all
  have R0 := hR 0 25 v0 rfl rfl
  have e0 := val_agg tt_ok (t := 25) rfl rfl (hval 0 25 v0 rfl rfl)
  generalize v0.cells.toList = c0 at e0 R0
  subst e0
  have R1 := hR 1 57 v1 rfl rfl
  have e1 := val_one tt_ok (t := 57) rfl (by intro h; cases h) rfl (hval 1 57 v1 rfl rfl)
  rw [e1] at R1
  clear hval hval0 hsz hsz0 hR hA0
  refine (rollbackTrue_walk W hG c0 v1 R0 R1).mono fun e W2 ⟨he, hI⟩ => ?_
  subst he
  exact ⟨_, rfl, _, _, _, [], _, [], hW', trodAll_mk1 (shut_bool Tryd.underlying4 _), hback _ (below_of_inv hI), rfl, (below_of_inv hI).frame _, fun h => by cases h⟩

theorem rollbackTrue_said : Rows.RollbackTrueSaid :=
  OpenClaim.holds_of_cond 5 Tryd.f5 rfl rfl rfl rfl rfl rfl rfl ⟨rfl, rfl, rfl, rfl, rfl⟩ rfl rfl rfl rfl rfl (by kernel_rfl) Tryd.func5 (by kernel_rfl)
    (of_decide_eq_true (by kernel_rfl)) (by unfold Func.isWrapper; first | (rw [if_pos (by decide +kernel)]; kernel_rfl) | (rw [if_neg (by decide +kernel)]; exact ⟨rfl, rfl⟩))
    (fun os started H enc _ F => by rw [OpenClaim.pre_eq_preRow]; exact rollbackTrue_lifted os started H enc F)

theorem rollbackTrue_plain (f : FuncId) (fn : Func) (hf : Tryd.pinned.checked.prog.funcNamed "hindcast/hindcastlaw26.RollbackTrue" = some f) (hfn : Tryd.pinned.checked.prog.funcs[f]? = some fn) :
    false = Tryd.pinned.checked.prog.looks [] ∧ ∀ (j : Nat) t, fn.params[j]? = some t → Tryd.pinned.checked.prog.wantsStandIn t = false := by
  obtain rfl : f = 5 := Option.some.inj ((show Tryd.prog.funcNamed "hindcast/hindcastlaw26.RollbackTrue" = some 5 by kernel_rfl).symm.trans hf) |>.symm
  obtain rfl : fn = Tryd.f5 := (Option.some.inj (Tryd.func5.symm.trans hfn)).symm
  refine ⟨by kernel_rfl, fun j t ht => ?_⟩
  rw [Tryd.params5] at ht
  have hm : t ∈ [25, 57] := by simpa using Array.mem_of_getElem? ht
  have hall : ([25, 57].all fun u => !Tryd.prog.wantsStandIn u) = true := by kernel_rfl
  exact (show Tryd.prog.wantsStandIn t = false by simpa using List.all_eq_true.1 hall t hm)

theorem rollbackTrue_holds : Rows.RollbackTrueCardSaid :=
  Claim7.holds_tied_plain_at .later [] _ _ _ _ rollbackTrue_said (fun _ h => by cases h) (by kernel_rfl) (fun _ h => by cases h) rollbackTrue_row_tie rfl ⟨rfl, rfl⟩ (by kernel_rfl) rfl rollbackTrue_plain (by kernel_rfl)

end Go.Proofs.YtkekgagekgadmaaDoor
