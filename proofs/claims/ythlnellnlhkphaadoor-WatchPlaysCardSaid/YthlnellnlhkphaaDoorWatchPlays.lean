/-
  Chapter 29: the law WatchPlays: whatever is told to a watch of any size, it answers what the document says.
-/
import Derived.Test.YthlnellnlhkphaaDoorWatchPure
import Derived.Test.YthlnellnlhkphaaDoorStateRow
import Derived.Test.YthlnellnlhkphaaDoorCards
import Derived.Test.YthlnellnlhkphaaDoorTie
import Derived.Test.YthlnellnlhkphaaDoorLaid
import Derived.Test.YthlnellnlhkphaaDoorWalk
import Derived.Deep.DeepHandedRow
namespace Go.Proofs.YthlnellnlhkphaaDoor
open Go.Proofs.YthlnellnlhkphaaDoor.Eng Go.RowKit Go.ChangeShapes Go.WideShapes Go.ChangeAt
set_option linter.unusedSimpArgs false
set_option linter.unusedVariables false
set_option maxHeartbeats 2000000
set_option maxRecDepth 20000

variable {F : Nat}

/-! ### Digests -/
def stp (h c : Int) : Int := IntKind.wrap .u64 ((bits .xor .u64 h (IntKind.wrap .u64 c)) * 1099511628211)
theorem join_loop {s : List UInt8} (hs : s.length ≤ 1000000) : ∀ (m i : Nat) (h : Int), s.length - i < m → i ≤ s.length →
    m_digest_Join_L6 F s m h (i : Int) = some ((s.drop i).foldl (fun h (c : UInt8) => stp h (c.toNat : Int)) h)
  | 0, i, h, hm, _ => by omega
  | m + 1, i, h, hm, hi => by
    rw [m_digest_Join_L6.eq_2]
    by_cases h1 : i < s.length
    · have hx : s[i]? = some s[i] := List.getElem?_eq_getElem h1
      have hw : IntKind.wrap .i64 ((i : Int) + 1) = ((i + 1 : Nat) : Int) := by rw [wr_i64 ⟨by omega, by omega⟩]; omega
      have ih := join_loop hs m (i + 1) (stp h (s[i].toNat : Int)) (by omega) (by omega)
      simp only [decide_eq_true (show (i : Int) < (s.length : Int) by omega), cond_true, getI_nat, hx, Option.bind_some, hw]
      rw [List.drop_eq_getElem_cons h1, List.foldl_cons]
      exact ih
    · simp only [decide_eq_false (show ¬ (i : Int) < (s.length : Int) by omega), cond_false]
      rw [List.drop_of_length_le (by omega)]
      rfl

def joinv (h : Int) (s : List UInt8) : Int := s.foldl (fun h (c : UInt8) => stp h (c.toNat : Int)) h

theorem join_of {s : List UInt8} {h : Int} (hl : s.length < F) (hs : s.length ≤ 1000000) : m_digest_Join F h s = some (joinv h s) := by
  have := join_loop (F := F) (s := s) hs F 0 h (by omega) (by omega)
  simp only [m_digest_Join]
  rw [show (0 : Int) = ((0 : Nat) : Int) from rfl, this]
  rfl

theorem rjoin_loop {s : List UInt8} (hs : s.length ≤ 1000000) : ∀ (m i : Nat) (h : Int), s.length - i < m → i ≤ s.length →
    m_hindcastref10_Join_L6 F s m h (i : Int) = some ((s.drop i).foldl (fun h (c : UInt8) => stp h (c.toNat : Int)) h)
  | 0, i, h, hm, _ => by omega
  | m + 1, i, h, hm, hi => by
    rw [m_hindcastref10_Join_L6.eq_2]
    by_cases h1 : i < s.length
    · have hx : s[i]? = some s[i] := List.getElem?_eq_getElem h1
      have hw : IntKind.wrap .i64 ((i : Int) + 1) = ((i + 1 : Nat) : Int) := by rw [wr_i64 ⟨by omega, by omega⟩]; omega
      have ih := rjoin_loop hs m (i + 1) (stp h (s[i].toNat : Int)) (by omega) (by omega)
      simp only [decide_eq_true (show (i : Int) < (s.length : Int) by omega), cond_true, getI_nat, hx, Option.bind_some, hw, m_hindcastref10_step]
      rw [List.drop_eq_getElem_cons h1, List.foldl_cons]
      exact ih
    · simp only [decide_eq_false (show ¬ (i : Int) < (s.length : Int) by omega), cond_false]
      rw [List.drop_of_length_le (by omega)]
      rfl

theorem rjoin_of {s : List UInt8} {h : Int} (hl : s.length < F) (hs : s.length ≤ 1000000) : m_hindcastref10_Join F h s = some (joinv h s) := by
  have := rjoin_loop (F := F) (s := s) hs F 0 h (by omega) (by omega)
  have h' : m_hindcastref10_Join_L6 F s F h 0 = _ := this
  simp only [m_hindcastref10_Join, h', Option.bind_some, List.drop_zero]
  rfl

theorem of_both {s : T_api_State} {b : List UInt8} {c : Int} (p1 : m_state_Put F s = some b) (p2 : m_hindcastref08_Put F s = some b) (j1 : m_digest_Join F 14695981039346656037 b = some c) (j2 : m_hindcastref10_Join F 14695981039346656037 b = some c) :
    m_digest_Of F s = some c ∧ m_hindcastref10_Of F s = some c := by
  constructor
  · unfold m_digest_Of
    rw [p1, Option.bind_some, j1, Option.bind_some]
  · unfold m_hindcastref10_Of
    rw [p2, Option.bind_some, j2, Option.bind_some]

theorem of_same (hF : 4000 ≤ F) {s : T_api_State} (ho : StOk s) (hs : s.Shots.length ≤ 100) : ∃ c, m_digest_Of F s = some c ∧ m_hindcastref10_Of F s = some c := by
  have p1 := put_of (F := F) ho (by omega) (by omega) (by omega)
  have p2 := rput_of (F := F) ho (by omega) (by omega) (by omega)
  have hl : (if stGood s then toB (stB s) else []).length ≤ 3000 := by
    split
    · have h1 := vb_length 9 s.Shots.length
      simp [stB, toB_length, iL_length, le_length, plB_length, shsB_length]; omega
    · simp
  exact ⟨_, of_both p1 p2 (join_of (by omega) (by omega)) (rjoin_of (by omega) (by omega))⟩

/-! ### The document's watch holds what the program's holds -/
def cv (x : T_watch_entry) : T_hindcastref29_Entry := ⟨x.f, (x.own.n, x.other.n), (x.own.is_, x.other.is_)⟩
theorem cv_F (x : T_watch_entry) : (cv x).F = x.f := rfl
structure WR (w : T_watch_Watch) (r : T_hindcastref29_Watch) : Prop where
  ok : WOk w
  sz : r.Rows = w.rows
  cl : r.Clashed = w.clashed
  pm : r.L.Perm (w.l.map cv)

theorem srt_inj {l : List T_watch_entry} (h : Srt l) {x y : T_watch_entry} (hx : x ∈ l) (hy : y ∈ l) (hf : x.f = y.f) : x = y := by
  obtain ⟨i, hi⟩ := List.getElem?_of_mem hx
  obtain ⟨j, hj⟩ := List.getElem?_of_mem hy
  obtain ⟨hi', rfl⟩ := List.getElem?_eq_some_iff.1 hi
  obtain ⟨hj', rfl⟩ := List.getElem?_eq_some_iff.1 hj
  have h' := List.pairwise_iff_getElem.1 h
  rcases Nat.lt_trichotomy i j with c | c | c
  · have := h' i j hi' hj' c
    omega
  · subst c; rfl
  · have := h' j i hj' hi' c
    omega
theorem ne_of_has {l : List T_watch_entry} (hs : Srt l) {f : Int} (hh : has l f = false) {y : T_watch_entry} (hy : y ∈ l) : y.f ≠ f := by
  intro he
  obtain ⟨k, hk⟩ := List.getElem?_of_mem hy
  have h1 : ¬ k < pos l f := fun h => by have := (pos_iff hs hk).2 h; omega
  have hlt := (List.getElem?_eq_some_iff.1 hk).1
  have hp : l[pos l f]? = some (l[pos l f]'(by omega)) := List.getElem?_eq_getElem _
  have h3 : ¬ (l[pos l f]'(by omega)).f < f := fun h => Nat.lt_irrefl _ ((pos_iff hs hp).1 h)
  by_cases h2 : k = pos l f
  · unfold has at hh
    rw [← h2, hk] at hh
    simp [he] at hh
  · have h4 := (List.pairwise_iff_getElem.1 hs) (pos l f) k (by omega) hlt (by omega)
    rw [(List.getElem?_eq_some_iff.1 hk).2] at h4
    omega

section
variable {w : T_watch_Watch} {r : T_hindcastref29_Watch}

theorem wr_mem (H : WR w r) {e : T_hindcastref29_Entry} (he : e ∈ r.L) : ∃ x ∈ w.l, cv x = e := List.mem_map.1 (H.pm.mem_iff.1 he)
theorem wr_mem' (H : WR w r) {x : T_watch_entry} (hx : x ∈ w.l) : cv x ∈ r.L := H.pm.mem_iff.2 (List.mem_map.2 ⟨x, hx, rfl⟩)
theorem wr_len (H : WR w r) : r.L.length = w.l.length := by rw [H.pm.length_eq, List.length_map]

theorem find_loop {f : Int} (hl : r.L.length ≤ 100) : ∀ (m i : Nat), r.L.length - i < m → i ≤ r.L.length → (∀ e ∈ r.L.take i, e.F ≠ f) →
    ∃ o, m_hindcastref29_Watch_find_L6 F r f m (i : Int) = some o ∧ ((o = .inl 0 ∧ ∀ e ∈ r.L, e.F ≠ f) ∨ ∃ (k : Nat) (e : T_hindcastref29_Entry), o = .inr (k : Int) ∧ r.L[k]? = some e ∧ e.F = f)
  | 0, i, h, _, _ => by omega
  | m + 1, i, h, hi, ht => by
    rw [m_hindcastref29_Watch_find_L6.eq_2]
    by_cases hlt : i < r.L.length
    · have hx : r.L[i]? = some r.L[i] := List.getElem?_eq_getElem hlt
      have w1 : IntKind.wrap .i64 ((i : Int) + 1) = ((i + 1 : Nat) : Int) := by rw [wr_i64 ⟨by omega, by omega⟩]; omega
      have htk : r.L.take (i + 1) = r.L.take i ++ [r.L[i]] := by rw [List.take_add_one, hx]; rfl
      rw [decide_eq_true (show (i : Int) < (r.L.length : Int) by omega), cond_true]
      simp only [getI_nat, hx, Option.bind_some, w1]
      by_cases hc : r.L[i].F = f
      · rw [show (r.L[i].F == f) = true by simpa using hc, cond_true]
        exact ⟨_, rfl, .inr ⟨i, _, rfl, hx, hc⟩⟩
      · rw [show (r.L[i].F == f) = false by simpa using hc, cond_false]
        refine find_loop hl m (i + 1) (by omega) (by omega) (fun e he => ?_)
        rw [htk] at he
        rcases List.mem_append.1 he with he | he
        · exact ht e he
        · rw [List.mem_singleton.1 he]; exact hc
    · rw [decide_eq_false (show ¬ (i : Int) < (r.L.length : Int) by omega), cond_false]
      rw [List.take_of_length_le (by omega)] at ht
      exact ⟨_, rfl, .inl ⟨rfl, ht⟩⟩
theorem find_of (hF : 110 ≤ F) (hl : r.L.length ≤ 100) (f : Int) : ∃ c, m_hindcastref29_Watch_find F r f = some c ∧ ((c = -1 ∧ ∀ e ∈ r.L, e.F ≠ f) ∨ ∃ (k : Nat) (e : T_hindcastref29_Entry), c = (k : Int) ∧ r.L[k]? = some e ∧ e.F = f) := by
  obtain ⟨o, e, ho⟩ := find_loop (F := F) (r := r) (f := f) hl F 0 (by omega) (by omega) (by simp)
  rw [show ((0 : Nat) : Int) = 0 from rfl] at e
  unfold m_hindcastref29_Watch_find
  rw [e]
  rcases ho with ⟨rfl, ho⟩ | ⟨k, x, rfl, hk, hx⟩
  · exact ⟨-1, rfl, .inl ⟨rfl, ho⟩⟩
  · exact ⟨k, rfl, .inr ⟨k, x, rfl, hk, hx⟩⟩

theorem least_loop (hl : r.L.length ≤ 100) : ∀ (m i b : Nat) (t : T_hindcastref29_Entry), r.L.length - i < m → i ≤ r.L.length → r.L[b]? = some t → (∀ u ∈ r.L.take i, t.F ≤ u.F) →
    ∃ (k : Nat) (e : T_hindcastref29_Entry), m_hindcastref29_Watch_least_L8 F r m (b : Int) (i : Int) = some (k : Int) ∧ r.L[k]? = some e ∧ ∀ u ∈ r.L, e.F ≤ u.F
  | 0, i, b, t, h, _, _, _ => by omega
  | m + 1, i, b, t, h, hi, hb, ht => by
    rw [m_hindcastref29_Watch_least_L8.eq_2]
    by_cases hlt : i < r.L.length
    · have hx : r.L[i]? = some r.L[i] := List.getElem?_eq_getElem hlt
      have w1 : IntKind.wrap .i64 ((i : Int) + 1) = ((i + 1 : Nat) : Int) := by rw [wr_i64 ⟨by omega, by omega⟩]; omega
      have htk : r.L.take (i + 1) = r.L.take i ++ [r.L[i]] := by rw [List.take_add_one, hx]; rfl
      rw [decide_eq_true (show (i : Int) < (r.L.length : Int) by omega), cond_true]
      simp only [getI_nat, hx, hb, Option.bind_some, w1]
      by_cases hc : r.L[i].F < t.F
      · rw [decide_eq_true hc, cond_true]
        refine least_loop hl m (i + 1) i _ (by omega) (by omega) hx (fun u hu => ?_)
        rw [htk] at hu
        rcases List.mem_append.1 hu with hu | hu
        · have := ht u hu; omega
        · rw [List.mem_singleton.1 hu]; exact Int.le_refl _
      · rw [decide_eq_false hc, cond_false]
        refine least_loop hl m (i + 1) b t (by omega) (by omega) hb (fun u hu => ?_)
        rw [htk] at hu
        rcases List.mem_append.1 hu with hu | hu
        · exact ht u hu
        · rw [List.mem_singleton.1 hu]; omega
    · rw [decide_eq_false (show ¬ (i : Int) < (r.L.length : Int) by omega), cond_false]
      rw [List.take_of_length_le (by omega)] at ht
      exact ⟨b, t, rfl, hb, ht⟩
theorem least_of (hF : 110 ≤ F) (hl : r.L.length ≤ 100) (h0 : 0 < r.L.length) : ∃ (k : Nat) (e : T_hindcastref29_Entry), m_hindcastref29_Watch_least F r = some (k : Int) ∧ r.L[k]? = some e ∧ ∀ u ∈ r.L, e.F ≤ u.F := by
  obtain ⟨k, e, h1, h2, h3⟩ := least_loop (F := F) (r := r) hl F 0 0 r.L[0] (by omega) (by omega) (List.getElem?_eq_getElem h0) (by simp)
  rw [show ((0 : Nat) : Int) = 0 from rfl] at h1
  unfold m_hindcastref29_Watch_least
  rw [h1]
  exact ⟨k, e, rfl, h2, h3⟩

theorem split_at {α : Type} {l : List α} {k : Nat} {e : α} (h : l[k]? = some e) : l = l.take k ++ e :: l.drop (k + 1) := by
  obtain ⟨h1, h2⟩ := List.getElem?_eq_some_iff.1 h
  rw [← h2, List.getElem_cons_drop, List.take_append_drop]

/-- Where a digest goes, in both. -/
theorem place_none (H : WR w r) (hF : 110 ≤ F) {f : Int} (ha : atv w.l f = none) : m_hindcastref29_Watch_place F r f = some (r, -1) := by
  have hln := H.ok.ln
  have hrl := wr_len H
  unfold atv at ha
  split at ha
  · cases ha
  · rename_i hh
    rw [Bool.not_eq_true] at hh
    split at ha
    · cases ha
    · rename_i h8
      split at ha
      · rename_i h0
        obtain ⟨c, e1, hc⟩ := find_of (F := F) (r := r) hF (by omega) f
        obtain ⟨k, e, l1, l2, l3⟩ := least_of (F := F) (r := r) hF (by omega) (by omega)
        rcases hc with ⟨rfl, _⟩ | ⟨k', e', rfl, hk', hf'⟩
        · obtain ⟨z, hz, hzc⟩ := wr_mem H (List.mem_of_getElem? l2)
          have hz1 : e.F = z.f := by rw [← hzc]; rfl
          have hz2 := ne_of_has H.ok.srt hh hz
          have hz3 : ¬ z.f < f := by
            obtain ⟨j, hj⟩ := List.getElem?_of_mem hz
            intro h
            have := (pos_iff H.ok.srt hj).1 h
            omega
          unfold m_hindcastref29_Watch_place
          rw [e1]
          simp only [Option.bind_some, show decide ((0 : Int) ≤ -1) = false from rfl, cond_false, decide_eq_true (show (8 : Int) ≤ (r.L.length : Int) by omega), cond_true, l1, getI_nat, l2, decide_eq_true (show f < e.F by omega)]
        · obtain ⟨z, hz, hzc⟩ := wr_mem H (List.mem_of_getElem? hk')
          exact absurd (by rw [← hf', ← hzc]; rfl) (ne_of_has H.ok.srt hh hz)
      · cases ha

theorem place_some (H : WR w r) (hF : 110 ≤ F) {f : Int} {l' : List T_watch_entry} {i : Nat} (ha : atv w.l f = some (l', i)) :
    ∃ (L' : List T_hindcastref29_Entry) (k : Nat) (x : T_watch_entry), m_hindcastref29_Watch_place F r f = some (⟨r.Rows, L', r.Clashed⟩, (k : Int)) ∧ L'.Perm (l'.map cv) ∧ l'[i]? = some x ∧ L'[k]? = some (cv x) := by
  have hln := H.ok.ln
  have hrl := wr_len H
  have hps := pos_le w.l f
  obtain ⟨c, e1, hc⟩ := find_of (F := F) (r := r) hF (by omega) f
  obtain ⟨x, hx, hxf⟩ := atv_get ha
  unfold m_hindcastref29_Watch_place
  rw [e1]
  unfold atv at ha
  split at ha
  · rename_i hh
    simp only [Option.some.injEq, Prod.mk.injEq] at ha
    obtain ⟨rfl, rfl⟩ := ha
    rcases hc with ⟨rfl, hn⟩ | ⟨k, e, rfl, hk, hf⟩
    · exact absurd hxf (hn _ (wr_mem' H (List.mem_of_getElem? hx)))
    · obtain ⟨z, hz, hzc⟩ := wr_mem H (List.mem_of_getElem? hk)
      have hzx : z = x := srt_inj H.ok.srt hz (List.mem_of_getElem? hx) (by rw [hxf, ← hf, ← hzc]; rfl)
      subst hzx
      simp only [Option.bind_some, decide_eq_true (show (0 : Int) ≤ (k : Int) by omega), cond_true]
      exact ⟨r.L, k, z, rfl, H.pm, hx, by rw [hzc]; exact hk⟩
  · rename_i hh
    rw [Bool.not_eq_true] at hh
    have hc' : c = -1 := by
      rcases hc with ⟨h, _⟩ | ⟨k', e', rfl, hk', hf'⟩
      · exact h
      · obtain ⟨z, hz, hzc⟩ := wr_mem H (List.mem_of_getElem? hk')
        exact absurd (by rw [← hf', ← hzc]; rfl) (ne_of_has H.ok.srt hh hz)
    subst hc'
    have hapn : ∀ L : List T_hindcastref29_Entry, L.length ≤ 8 → appI L ([T_hindcastref29_Entry.mk f ((0 : Int), (0 : Int)) (false, false)]) = some (L ++ [cv (newE f)]) := fun L hL => appI_of (by simp; omega)
    have hlast : ∀ L : List T_hindcastref29_Entry, L.length ≤ 8 → IntKind.wrap .i64 (((L ++ [cv (newE f)]).length : Int) - 1) = (L.length : Int) := fun L hL => by
      rw [wr_i64 ⟨by simp, by simp; omega⟩]; simp
    have hget : ∀ L : List T_hindcastref29_Entry, (L ++ [cv (newE f)])[L.length]? = some (cv (newE f)) := fun L => by simp
    have hperm : ∀ (L : List T_hindcastref29_Entry) (l : List T_watch_entry), L.Perm (l.map cv) → (L ++ [cv (newE f)]).Perm ((insE l f).map cv) := fun L l hp => by
      unfold insE
      rw [List.append_assoc, List.map_append, List.singleton_append, List.map_cons]
      refine List.Perm.trans ?_ List.perm_middle.symm
      refine (List.perm_append_singleton _ _).trans (List.Perm.cons _ ?_)
      rw [← List.map_append, List.take_append_drop]
      exact hp
    split at ha
    · rename_i h8
      simp only [Option.some.injEq, Prod.mk.injEq] at ha
      obtain ⟨rfl, rfl⟩ := ha
      simp only [Option.bind_some, show decide ((0 : Int) ≤ -1) = false from rfl, cond_false, decide_eq_false (show ¬ (8 : Int) ≤ (r.L.length : Int) by omega), hapn r.L (by omega), hlast r.L (by omega)]
      exact ⟨_, r.L.length, newE f, rfl, hperm _ _ H.pm, insE_at w.l f, hget r.L⟩
    · rename_i h8
      split at ha
      · cases ha
      · rename_i h0
        simp only [Option.some.injEq, Prod.mk.injEq] at ha
        obtain ⟨rfl, rfl⟩ := ha
        obtain ⟨k, e, l1, l2, l3⟩ := least_of (F := F) (r := r) hF (by omega) (by omega)
        have hk := (List.getElem?_eq_some_iff.1 l2).1
        obtain ⟨z, hz, hzc⟩ := wr_mem H (List.mem_of_getElem? l2)
        have hz1 : e.F = z.f := by rw [← hzc]; rfl
        cases hw : w.l with
        | nil => rw [hw] at h8; exact absurd (show (0 : Nat) < 8 by decide) h8
        | cons y tl =>
          have hy : y ∈ w.l := by rw [hw]; exact List.mem_cons_self ..
          have hsr := H.ok.srt
          have hzy : z = y := by
            have h1 := l3 _ (wr_mem' H hy)
            rw [cv_F] at h1
            rw [hw] at hz hsr
            rcases List.mem_cons.1 hz with h | h
            · exact h
            · have := (List.pairwise_cons.1 hsr).1 z h
              omega
          subst hzy
          have hpos : z.f < f := by
            rw [hw] at h0
            unfold pos at h0
            split at h0
            · assumption
            · exact absurd rfl h0
          have hins : (insE (z :: tl) f).drop 1 = insE tl f := by
            have hq : pos (z :: tl) f = pos tl f + 1 := by
              rw [pos, if_pos hpos]
            unfold insE
            rw [hq]
            rfl
          have hc1 : cutI r.L 0 (k : Int) = some (r.L.take k) := by
            simp [cutI, hk, Nat.le_of_lt hk]
          have w1 : IntKind.wrap .i64 ((k : Int) + 1) = ((k + 1 : Nat) : Int) := by rw [wr_i64 ⟨by omega, by omega⟩]; omega
          have hc2 : cutI r.L ((k + 1 : Nat) : Int) (r.L.length : Int) = some (r.L.drop (k + 1)) := by
            simp [cutI]
            omega
          have ha1 : appI ([] : List T_hindcastref29_Entry) (r.L.take k) = some (r.L.take k) := appI_of (by simp; omega)
          have ha2 : appI (r.L.take k) (r.L.drop (k + 1)) = some (r.L.take k ++ r.L.drop (k + 1)) := appI_of (by simp; omega)
          have hlen : (r.L.take k ++ r.L.drop (k + 1)).length ≤ 8 := by simp; omega
          simp only [Option.bind_some, show decide ((0 : Int) ≤ -1) = false from rfl, cond_false, decide_eq_true (show (8 : Int) ≤ (r.L.length : Int) by omega), cond_true, l1, getI_nat, l2, decide_eq_false (show ¬ f < e.F by omega), hc1, ha1, w1, hc2, ha2, hapn _ hlen, hlast _ hlen]
          rw [hins]
          have hp0 : (r.L.take k ++ r.L.drop (k + 1)).Perm (tl.map cv) := by
            have h1 := H.pm
            rw [hw, split_at l2, List.map_cons, hzc] at h1
            exact List.Perm.cons_inv (List.perm_middle.symm.trans h1)
          refine ⟨_, (r.L.take k ++ r.L.drop (k + 1)).length, newE f, rfl, hperm _ _ hp0, ?_, hget _⟩
          rw [← hins, ← hw, List.getElem?_drop, show 1 + (pos w.l f - 1) = pos w.l f by omega, insE_at]

theorem perm_set {L : List T_hindcastref29_Entry} {l : List T_watch_entry} {k i : Nat} {x y : T_watch_entry} (hp : L.Perm (l.map cv)) (hi : l[i]? = some x) (hk : L[k]? = some (cv x)) : (L.set k (cv y)).Perm ((l.set i y).map cv) := by
  obtain ⟨hi', _⟩ := List.getElem?_eq_some_iff.1 hi
  obtain ⟨hk', _⟩ := List.getElem?_eq_some_iff.1 hk
  rw [List.set_eq_take_append_cons_drop, if_pos hk', List.set_eq_take_append_cons_drop, if_pos hi', List.map_append, List.map_cons]
  refine List.perm_middle.trans (List.Perm.trans (List.Perm.cons _ ?_) List.perm_middle.symm)
  have h1 : (cv x :: (L.take k ++ L.drop (k + 1))).Perm (cv x :: (List.map cv (l.take i) ++ List.map cv (l.drop (i + 1)))) := by
    refine List.perm_middle.symm.trans (List.Perm.trans ?_ List.perm_middle)
    rw [← split_at hk, ← List.map_cons, ← List.map_append, ← split_at hi]
    exact hp
  exact List.Perm.cons_inv h1

theorem told_both (H : WR w r) (hF : 110 ≤ F) (s : Bool) (f n : Int) : ∃ r', m_hindcastref29_Watch_Told F r (if s then 1 else 0) f n = some (r', (toldv s w f n).2) ∧ WR (toldv s w f n).1 r' := by
  have hok := toldv_ok (s := s) H.ok f n
  have hr := H.ok.r0
  unfold m_hindcastref29_Watch_Told remI
  rw [H.sz, if_neg (show ¬ w.rows = 0 by omega)]
  simp only [Option.bind_some]
  by_cases hm : f.tmod w.rows = 0
  · rw [hm]
    simp only [bne_self_eq_false, cond_false]
    cases ha : atv w.l f with
    | none =>
      rw [place_none H hF ha]
      have ht : toldv s w f n = (w, if w.clashed then 14 else 0) := by
        unfold toldv
        rw [hm, ha]
        rfl
      rw [ht]
      refine ⟨⟨w.rows, r.L, r.Clashed⟩, ?_, ⟨H.ok, rfl, H.cl, H.pm⟩⟩
      simp only [Option.bind_some, show decide ((0 : Int) ≤ -1) = false from rfl, cond_false, H.cl, H.sz]
      cases w.clashed <;> rfl
    | some q =>
      obtain ⟨l', i⟩ := q
      obtain ⟨L', k, x, e1, e2, e3, e4⟩ := place_some H hF ha
      rw [e1]
      have ht : toldv s w f n = (⟨w.rows, l'.set i (putE s x n), (w.clashed || ((sideE s x).is_ && (sideE s x).n != n)) || odd (putE s x n)⟩, if (w.clashed || ((sideE s x).is_ && (sideE s x).n != n)) || odd (putE s x n) then 14 else 0) := by
        unfold toldv
        simp only [hm, ha, e3, ne_eq, not_true_eq_false, if_false]
      rw [ht] at hok ⊢
      refine ⟨⟨w.rows, L'.set k (cv (putE s x n)), (w.clashed || ((sideE s x).is_ && (sideE s x).n != n)) || odd (putE s x n)⟩, ?_, ⟨hok, rfl, rfl, perm_set e2 e3 e4⟩⟩
      have hS : ∀ y : T_hindcastref29_Entry, setI L' (k : Int) y = L'.set k y := fun y => rfl
      simp only [Option.bind_some, decide_eq_true (show (0 : Int) ≤ (k : Int) by omega), cond_true, getI_nat, e4, H.cl, H.sz, hS]
      unfold putE sideE odd cv
      cases s with
      | false =>
        simp only [Bool.false_eq_true, if_false, show ((0 : Int) == 0) = true from rfl, cond_true]
        cases ho : x.own.is_ <;> cases hc : w.clashed <;> cases ht : x.other.is_ <;> cases hq : (x.own.n != n) <;> cases hq2 : (x.own.n != x.other.n) <;> cases hq3 : (n != x.other.n) <;>
          simp [ho, ht, hq, hq2, hq3]
      | true =>
        simp only [if_true, show ((1 : Int) == 0) = false from rfl, show ((1 : Int) == 1) = true from rfl, cond_true, cond_false]
        cases ho : x.own.is_ <;> cases hc : w.clashed <;> cases ht : x.other.is_ <;> cases hq : (x.other.n != n) <;> cases hq2 : (x.own.n != x.other.n) <;> cases hq3 : (x.own.n != n) <;>
          simp [ho, ht, hq, hq2, hq3]
  · have h1 : (f.tmod w.rows != 0) = true := by simpa using hm
    rw [h1]
    have ht : toldv s w f n = (w, 2) := by
      unfold toldv
      rw [if_pos hm]
    rw [ht]
    exact ⟨r, rfl, H⟩

/-! ### The last ones -/
def LastSpec (q : T_hindcastref29_Entry → Bool) (L : List T_hindcastref29_Entry) : Option T_hindcastref29_Entry → Prop
  | none => ∀ e ∈ L, q e = false
  | some e => e ∈ L ∧ q e = true ∧ ∀ u ∈ L, q u = true → u.F ≤ e.F
theorem last_eq {p : T_watch_entry → Bool} {q : T_hindcastref29_Entry → Bool} (hpq : ∀ x, q (cv x) = p x) (H : WR w r) {o : Option T_hindcastref29_Entry} (ho : LastSpec q r.L o) : o = ((w.l.filter p).getLast?).map cv := by
  cases o with
  | none =>
    have : w.l.filter p = [] := by
      rw [List.filter_eq_nil_iff]
      intro x hx
      rw [← hpq, ho _ (wr_mem' H hx)]
      simp
    rw [this]
    rfl
  | some e =>
    obtain ⟨h1, h2, h3⟩ := ho
    obtain ⟨z, hz, rfl⟩ := wr_mem H h1
    rw [hpq] at h2
    have hm : z ∈ w.l.filter p := List.mem_filter.2 ⟨hz, h2⟩
    cases hg : (w.l.filter p).getLast? with
    | none =>
      rw [List.getLast?_eq_none_iff] at hg
      rw [hg] at hm
      cases hm
    | some x =>
      obtain ⟨ys, hys⟩ := List.getLast?_eq_some_iff.1 hg
      have hs : Srt (ys ++ [x]) := by rw [← hys]; exact H.ok.srt.sublist List.filter_sublist
      have hxm : x ∈ w.l.filter p := by rw [hys]; simp
      obtain ⟨hx1, hx2⟩ := List.mem_filter.1 hxm
      have h4 := h3 _ (wr_mem' H hx1) (by rw [hpq]; exact hx2)
      rw [cv_F, cv_F] at h4
      rw [hys] at hm
      rcases List.mem_append.1 hm with h | h
      · have := (List.pairwise_append.1 hs).2.2 z h x (by simp)
        omega
      · rw [List.mem_singleton.1 h]
        rfl

theorem last_filter {p : T_watch_entry → Bool} (x : T_watch_entry) (l : List T_watch_entry) : ((x :: l).filter p).getLast? = (match (l.filter p).getLast? with | some y => some y | none => if p x then some x else none) := by
  rw [List.filter_cons]
  cases hp : p x with
  | false =>
    simp only [Bool.false_eq_true, if_false]
    cases (l.filter p).getLast? <;> rfl
  | true =>
    simp only [if_true]
    rw [List.getLast?_cons]
    cases (l.filter p).getLast? <;> rfl

def ownp (x : T_watch_entry) : Bool := x.own.is_
def agrp (x : T_watch_entry) : Bool := x.own.is_ && ((x.own.n == x.other.n) && (x.own.is_ == x.other.is_))
def latv (l : List T_watch_entry) (f n : Int) (b : Bool) : Int × Int × Bool := match (l.filter ownp).getLast? with | some x => (x.f, x.own.n, true) | none => (f, n, b)
def agrv (l : List T_watch_entry) (f : Int) (b : Bool) : Int × Bool := match (l.filter agrp).getLast? with | some x => (x.f, true) | none => (f, b)

theorem latest_loop (hl : w.l.length ≤ 100) : ∀ (m i : Nat) (f n : Int) (b : Bool), w.l.length - i < m → i ≤ w.l.length → m_watch_Watch_Latest_L14 F w m f n b (i : Int) = some (latv (w.l.drop i) f n b)
  | 0, i, f, n, b, h, _ => by omega
  | m + 1, i, f, n, b, h, hi => by
    rw [m_watch_Watch_Latest_L14.eq_2]
    by_cases hlt : i < w.l.length
    · have hx : w.l[i]? = some w.l[i] := List.getElem?_eq_getElem hlt
      have w1 : IntKind.wrap .i64 ((i : Int) + 1) = ((i + 1 : Nat) : Int) := by rw [wr_i64 ⟨by omega, by omega⟩]; omega
      have hd : w.l.drop i = w.l[i] :: w.l.drop (i + 1) := by rw [List.getElem_cons_drop]
      rw [decide_eq_true (show (i : Int) < (w.l.length : Int) by omega), cond_true]
      simp only [getI_nat, hx, Option.bind_some, w1, latest_loop hl m (i + 1) _ _ _ (show w.l.length - (i + 1) < m by omega) (show i + 1 ≤ w.l.length by omega)]
      unfold latv
      rw [hd, last_filter]
      generalize w.l[i] = x
      unfold ownp
      cases x.own.is_ <;> cases ((w.l.drop (i + 1)).filter fun x => x.own.is_).getLast? <;> rfl
    · rw [decide_eq_false (show ¬ (i : Int) < (w.l.length : Int) by omega), cond_false, List.drop_of_length_le (by omega)]
      rfl
theorem agreed_loop (hl : w.l.length ≤ 100) : ∀ (m i : Nat) (f : Int) (b : Bool), w.l.length - i < m → i ≤ w.l.length → m_watch_Watch_Agreed_L14 F w m f b (i : Int) = some (agrv (w.l.drop i) f b)
  | 0, i, f, b, h, _ => by omega
  | m + 1, i, f, b, h, hi => by
    rw [m_watch_Watch_Agreed_L14.eq_2]
    by_cases hlt : i < w.l.length
    · have hx : w.l[i]? = some w.l[i] := List.getElem?_eq_getElem hlt
      have w1 : IntKind.wrap .i64 ((i : Int) + 1) = ((i + 1 : Nat) : Int) := by rw [wr_i64 ⟨by omega, by omega⟩]; omega
      have hd : w.l.drop i = w.l[i] :: w.l.drop (i + 1) := by rw [List.getElem_cons_drop]
      rw [decide_eq_true (show (i : Int) < (w.l.length : Int) by omega), cond_true]
      simp only [getI_nat, hx, Option.bind_some, w1, w_and, agreed_loop hl m (i + 1) _ _ (show w.l.length - (i + 1) < m by omega) (show i + 1 ≤ w.l.length by omega)]
      unfold agrv
      rw [hd, last_filter]
      generalize w.l[i] = x
      have hp : agrp x = (x.own.is_ && ((x.own.n == x.other.n) && (x.own.is_ == x.other.is_))) := rfl
      rw [← hp]
      cases agrp x <;> cases ((w.l.drop (i + 1)).filter agrp).getLast? <;> rfl
    · rw [decide_eq_false (show ¬ (i : Int) < (w.l.length : Int) by omega), cond_false, List.drop_of_length_le (by omega)]
      rfl
theorem latest_of (H : WOk w) (hF : 110 ≤ F) : m_watch_Watch_Latest F w = some (latv w.l 0 0 false) := by
  have hl := H.ln
  have h1 := latest_loop (F := F) (w := w) (by omega) F 0 0 0 false (by omega) (by omega)
  rw [show ((0 : Nat) : Int) = 0 from rfl, List.drop_zero] at h1
  unfold m_watch_Watch_Latest m_watch_Watch_is
  simp only [decide_eq_true H.r0, Option.bind_some, Bool.not_true, cond_false, h1]
theorem agreed_of (H : WOk w) (hF : 110 ≤ F) : m_watch_Watch_Agreed F w = some (agrv w.l 0 false) := by
  have hl := H.ln
  have h1 := agreed_loop (F := F) (w := w) (by omega) F 0 0 false (by omega) (by omega)
  rw [show ((0 : Nat) : Int) = 0 from rfl, List.drop_zero] at h1
  unfold m_watch_Watch_Agreed m_watch_Watch_is
  simp only [decide_eq_true H.r0, Option.bind_some, Bool.not_true, cond_false, h1]

def qown (e : T_hindcastref29_Entry) : Bool := e.Is.1
def qagr (e : T_hindcastref29_Entry) : Bool := e.Is.1 && e.Is.2 && (e.Sum.1 == e.Sum.2)
theorem qown_cv (x : T_watch_entry) : qown (cv x) = ownp x := rfl
theorem qagr_cv (x : T_watch_entry) : qagr (cv x) = agrp x := by
  unfold qagr agrp cv
  cases x.own.is_ <;> cases x.other.is_ <;> simp

theorem spec_step {q : T_hindcastref29_Entry → Bool} {L : List T_hindcastref29_Entry} {e : T_hindcastref29_Entry} {o : Option T_hindcastref29_Entry} (h : LastSpec q L o) :
    LastSpec q (L ++ [e]) (if q e && (match o with | none => true | some t => decide (t.F < e.F)) then some e else o) := by
  cases hq : q e with
  | false =>
    simp only [Bool.false_and, Bool.false_eq_true, if_false]
    cases o with
    | none =>
      intro u hu
      rcases List.mem_append.1 hu with hu | hu
      · exact h u hu
      · rw [List.mem_singleton.1 hu]; exact hq
    | some t =>
      obtain ⟨h1, h2, h3⟩ := h
      refine ⟨List.mem_append.2 (.inl h1), h2, fun u hu hqu => ?_⟩
      rcases List.mem_append.1 hu with hu | hu
      · exact h3 u hu hqu
      · rw [List.mem_singleton.1 hu, hq] at hqu; cases hqu
  | true =>
    simp only [Bool.true_and]
    cases o with
    | none =>
      simp only [if_true]
      refine ⟨by simp, hq, fun u hu hqu => ?_⟩
      rcases List.mem_append.1 hu with hu | hu
      · rw [h u hu] at hqu; cases hqu
      · rw [List.mem_singleton.1 hu]; exact Int.le_refl _
    | some t =>
      obtain ⟨h1, h2, h3⟩ := h
      by_cases hc : t.F < e.F
      · simp only [decide_eq_true hc, if_true]
        refine ⟨by simp, hq, fun u hu hqu => ?_⟩
        rcases List.mem_append.1 hu with hu | hu
        · have := h3 u hu hqu; omega
        · rw [List.mem_singleton.1 hu]; exact Int.le_refl _
      · simp only [decide_eq_false hc, Bool.false_eq_true, if_false]
        refine ⟨List.mem_append.2 (.inl h1), h2, fun u hu hqu => ?_⟩
        rcases List.mem_append.1 hu with hu | hu
        · exact h3 u hu hqu
        · rw [List.mem_singleton.1 hu]; omega

def oLat : Option T_hindcastref29_Entry → Int × Int × Bool
  | none => (0, 0, false)
  | some e => (e.F, e.Sum.1, true)
def oAgr : Option T_hindcastref29_Entry → Int × Bool
  | none => (0, false)
  | some e => (e.F, true)
theorem rlatest_loop (hl : r.L.length ≤ 100) : ∀ (m i : Nat) (o : Option T_hindcastref29_Entry), r.L.length - i < m → i ≤ r.L.length → LastSpec qown (r.L.take i) o →
    ∃ o', m_hindcastref29_Watch_Latest_L8 F r m (oLat o).1 (oLat o).2.1 (oLat o).2.2 (i : Int) = some (oLat o') ∧ LastSpec qown r.L o'
  | 0, i, o, h, _, _ => by omega
  | m + 1, i, o, h, hi, ho => by
    rw [m_hindcastref29_Watch_Latest_L8.eq_2]
    by_cases hlt : i < r.L.length
    · have hx : r.L[i]? = some r.L[i] := List.getElem?_eq_getElem hlt
      have w1 : IntKind.wrap .i64 ((i : Int) + 1) = ((i + 1 : Nat) : Int) := by rw [wr_i64 ⟨by omega, by omega⟩]; omega
      have htk : r.L.take (i + 1) = r.L.take i ++ [r.L[i]] := by rw [List.take_add_one, hx]; rfl
      have hs := spec_step (e := r.L[i]) ho
      rw [← htk] at hs
      obtain ⟨o', e1, e2⟩ := rlatest_loop hl m (i + 1) _ (by omega) (by omega) hs
      refine ⟨o', ?_, e2⟩
      rw [← e1, decide_eq_true (show (i : Int) < (r.L.length : Int) by omega), cond_true]
      simp only [getI_nat, hx, Option.bind_some, w1, w_or, w_and]
      generalize r.L[i] = e
      unfold qown
      cases o with
      | none => cases e.Is.1 <;> rfl
      | some t =>
        simp only [oLat, Bool.not_true, Bool.false_or]
        cases e.Is.1 <;> by_cases hd : t.F < e.F <;> simp only [hd, decide_true, decide_false] <;> rfl
    · rw [decide_eq_false (show ¬ (i : Int) < (r.L.length : Int) by omega), cond_false]
      rw [List.take_of_length_le (by omega)] at ho
      exact ⟨o, rfl, ho⟩
theorem ragreed_loop (hl : r.L.length ≤ 100) : ∀ (m i : Nat) (o : Option T_hindcastref29_Entry), r.L.length - i < m → i ≤ r.L.length → LastSpec qagr (r.L.take i) o →
    ∃ o', m_hindcastref29_Watch_Agreed_L8 F r m (oAgr o).1 (oAgr o).2 (i : Int) = some (oAgr o') ∧ LastSpec qagr r.L o'
  | 0, i, o, h, _, _ => by omega
  | m + 1, i, o, h, hi, ho => by
    rw [m_hindcastref29_Watch_Agreed_L8.eq_2]
    by_cases hlt : i < r.L.length
    · have hx : r.L[i]? = some r.L[i] := List.getElem?_eq_getElem hlt
      have w1 : IntKind.wrap .i64 ((i : Int) + 1) = ((i + 1 : Nat) : Int) := by rw [wr_i64 ⟨by omega, by omega⟩]; omega
      have htk : r.L.take (i + 1) = r.L.take i ++ [r.L[i]] := by rw [List.take_add_one, hx]; rfl
      have hs := spec_step (e := r.L[i]) ho
      rw [← htk] at hs
      obtain ⟨o', e1, e2⟩ := ragreed_loop hl m (i + 1) _ (by omega) (by omega) hs
      refine ⟨o', ?_, e2⟩
      rw [← e1, decide_eq_true (show (i : Int) < (r.L.length : Int) by omega), cond_true]
      simp only [getI_nat, hx, Option.bind_some, w1, w_or, w_and]
      generalize r.L[i] = e
      have hp : qagr e = (e.Is.1 && e.Is.2 && (e.Sum.1 == e.Sum.2)) := rfl
      rw [← hp]
      cases o with
      | none => cases qagr e <;> rfl
      | some t =>
        simp only [oAgr, Bool.not_true, Bool.false_or]
        cases qagr e <;> by_cases hd : t.F < e.F <;> simp only [hd, decide_true, decide_false] <;> rfl
    · rw [decide_eq_false (show ¬ (i : Int) < (r.L.length : Int) by omega), cond_false]
      rw [List.take_of_length_le (by omega)] at ho
      exact ⟨o, rfl, ho⟩

theorem rlatest_of (H : WR w r) (hF : 110 ≤ F) : m_hindcastref29_Watch_Latest F r = some (latv w.l 0 0 false) := by
  have hl := H.ok.ln
  have hrl := wr_len H
  obtain ⟨o, e1, e2⟩ := rlatest_loop (F := F) (r := r) (by omega) F 0 none (by omega) (by omega) (by intro e he; simp at he)
  rw [show ((0 : Nat) : Int) = 0 from rfl] at e1
  have e1' : m_hindcastref29_Watch_Latest_L8 F r F 0 0 false 0 = some (oLat o) := e1
  unfold m_hindcastref29_Watch_Latest
  rw [e1']
  have he := last_eq qown_cv H e2
  simp only [Option.bind_some]
  rw [he]
  unfold latv
  cases (w.l.filter ownp).getLast? <;> rfl
theorem ragreed_of (H : WR w r) (hF : 110 ≤ F) : m_hindcastref29_Watch_Agreed F r = some (agrv w.l 0 false) := by
  have hl := H.ok.ln
  have hrl := wr_len H
  obtain ⟨o, e1, e2⟩ := ragreed_loop (F := F) (r := r) (by omega) F 0 none (by omega) (by omega) (by intro e he; simp at he)
  rw [show ((0 : Nat) : Int) = 0 from rfl] at e1
  have e1' : m_hindcastref29_Watch_Agreed_L8 F r F 0 false 0 = some (oAgr o) := e1
  unfold m_hindcastref29_Watch_Agreed
  rw [e1']
  have he := last_eq qagr_cv H e2
  simp only [Option.bind_some]
  rw [he]
  unfold agrv
  cases (w.l.filter agrp).getLast? <;> rfl

/-! ### An act, and all -/
theorem state_both (H : WR w r) (hF : 4000 ≤ F) {s : T_api_State} (ho : StOk s) (hs : s.Shots.length ≤ 100) : ∃ w' r' c, m_watch_Watch_State F w s = some (w', c) ∧ m_hindcastref29_Watch_State F r s = some (r', c) ∧ WR w' r' := by
  have hr := H.ok.r0
  unfold m_watch_Watch_State m_hindcastref29_Watch_State m_watch_Watch_is remI
  rw [H.sz]
  simp only [decide_eq_true hr, Option.bind_some, Bool.not_true, cond_false, if_neg (show ¬ w.rows = 0 by omega)]
  cases hm : (s.Frame.tmod w.rows != 0) with
  | true => exact ⟨w, r, 0, rfl, rfl, H⟩
  | false =>
    obtain ⟨c, c1, c2⟩ := of_same hF ho hs
    obtain ⟨r', e1, e2⟩ := told_both (F := F) H (by omega) false s.Frame c
    have e1' : m_hindcastref29_Watch_Told F r 0 s.Frame c = _ := e1
    simp only [cond_false, c1, c2, Option.bind_some, own_of H.ok (show 110 ≤ F by omega), e1']
    exact ⟨_, _, _, rfl, rfl, e2⟩

theorem one_of (H : WR w r) (hF : 4000 ≤ F) {a : T_hindcastlaw29_Act} (ho : StOk a.S) (hs : a.S.Shots.length ≤ 100) : ∃ w' r', m_hindcastlaw29_one F w r a = some (w', r', true) ∧ WR w' r' := by
  unfold m_hindcastlaw29_one
  by_cases w0 : Int.tmod a.What 3 = 0
  · obtain ⟨r', e1, e2⟩ := told_both (F := F) H (by omega) false a.F a.Sum
    have e1' : m_hindcastref29_Watch_Told F r 0 a.F a.Sum = _ := e1
    rw [w0]
    simp only [beq_self_eq_true, cond_true, own_of H.ok (show 110 ≤ F by omega), Option.bind_some, e1']
    exact ⟨_, _, rfl, e2⟩
  · by_cases w1 : Int.tmod a.What 3 = 1
    · obtain ⟨r', e1, e2⟩ := told_both (F := F) H (by omega) true a.F a.Sum
      have e1' : m_hindcastref29_Watch_Told F r 1 a.F a.Sum = _ := e1
      rw [w1]
      simp only [show ((1 : Int) == 0) = false from rfl, cond_false, beq_self_eq_true, cond_true, other_of H.ok (show 110 ≤ F by omega), Option.bind_some, e1']
      exact ⟨_, _, rfl, e2⟩
    · have b0 : (Int.tmod a.What 3 == 0) = false := by simpa using w0
      have b1 : (Int.tmod a.What 3 == 1) = false := by simpa using w1
      obtain ⟨w', r', c, e1, e2, e3⟩ := state_both H hF ho hs
      simp only [b0, b1, cond_false, e1, e2, Option.bind_some, beq_self_eq_true]
      exact ⟨_, _, rfl, e3⟩
end
theorem few_loop {l : List T_hindcastlaw29_Act} : ∀ (m i : Nat), 130 - i < m → i ≤ 130 → ∃ o, m_hindcastlaw29_few_L6 F l m (i : Int) = some o ∧ (o = .inr false ∨ (o = .inl false ∧ ∀ (k : Nat) a, i ≤ k → k < 130 → l[k]? = some a → a.S.Shots.length ≤ 100))
  | 0, i, h, _ => by omega
  | m + 1, i, h, hi => by
    rw [m_hindcastlaw29_few_L6.eq_2]
    simp only [w_and, Option.bind_some]
    by_cases hc : i < l.length ∧ i < 130
    · have hx : l[i]? = some (l[i]'hc.1) := List.getElem?_eq_getElem hc.1
      have w1 : IntKind.wrap .i64 ((i : Int) + 1) = ((i + 1 : Nat) : Int) := by rw [wr_i64 ⟨by omega, by omega⟩]; omega
      rw [decide_eq_true (show (i : Int) < (l.length : Int) by omega), decide_eq_true (show (i : Int) < 130 by omega)]
      simp only [Bool.and_self, cond_true, getI_nat, hx, Option.bind_some, w1]
      by_cases h2 : (100 : Int) < ((l[i]'hc.1).S.Shots.length : Int)
      · rw [decide_eq_true h2, cond_true]
        exact ⟨_, rfl, .inl rfl⟩
      · rw [decide_eq_false h2, cond_false]
        obtain ⟨o, e, ho⟩ := few_loop (l := l) m (i + 1) (by omega) (by omega)
        refine ⟨o, e, ho.imp id fun ⟨q1, q2⟩ => ⟨q1, fun k a hk h9 ha => ?_⟩⟩
        rcases Nat.lt_or_ge i k with h | h
        · exact q2 k a h h9 ha
        · obtain rfl : k = i := by omega
          rw [hx] at ha
          obtain rfl := Option.some.inj ha
          omega
    · have : (decide ((i : Int) < (l.length : Int)) && decide ((i : Int) < 130)) = false := by
        cases h : (decide ((i : Int) < (l.length : Int)) && decide ((i : Int) < 130)) with
        | false => rfl
        | true => simp only [Bool.and_eq_true, decide_eq_true_eq] at h; omega
      rw [this, cond_false]
      refine ⟨_, rfl, .inr ⟨rfl, fun k a hk h9 ha => ?_⟩⟩
      have := (List.getElem?_eq_some_iff.1 ha).1
      omega
theorem few_of (hF : 200 ≤ F) (l : List T_hindcastlaw29_Act) : ∃ b, m_hindcastlaw29_few F l = some b ∧ (b = true → l.length ≤ 120 ∧ ∀ a ∈ l, a.S.Shots.length ≤ 100) := by
  obtain ⟨o, e, ho⟩ := few_loop (F := F) (l := l) F 0 (by omega) (by omega)
  rw [show ((0 : Nat) : Int) = 0 from rfl] at e
  unfold m_hindcastlaw29_few
  rw [e]
  rcases ho with rfl | ⟨rfl, ho⟩
  · exact ⟨false, rfl, fun h => by cases h⟩
  · refine ⟨decide ((l.length : Int) ≤ 120), rfl, fun h => ?_⟩
    have h8 : l.length ≤ 120 := by have := of_decide_eq_true h; omega
    refine ⟨h8, fun a ha => ?_⟩
    obtain ⟨k, hk⟩ := List.getElem?_of_mem ha
    exact ho k a (by omega) (by have := (List.getElem?_eq_some_iff.1 hk).1; omega) hk


theorem plays_loop (hF : 4000 ≤ F) {l : List T_hindcastlaw29_Act} (hl : l.length ≤ 120) (ho : ∀ a ∈ l, StOk a.S) (hs : ∀ a ∈ l, a.S.Shots.length ≤ 100) : ∀ (m i : Nat) (w : T_watch_Watch) (r : T_hindcastref29_Watch), l.length - i < m → i ≤ l.length → WR w r →
    ∃ o, m_hindcastlaw29_WatchPlays_L34 F l m (i : Int) w.rows w.l w.clashed r.Rows r.L r.Clashed = some (.inl o)
  | 0, i, w, r, h, _, _ => by omega
  | m + 1, i, w, r, h, hi, H => by
    rw [m_hindcastlaw29_WatchPlays_L34.eq_2]
    by_cases hlt : i < l.length
    · have hx : l[i]? = some l[i] := List.getElem?_eq_getElem hlt
      have hm := List.getElem_mem hlt
      have w1 : IntKind.wrap .i64 ((i : Int) + 1) = ((i + 1 : Nat) : Int) := by rw [wr_i64 ⟨by omega, by omega⟩]; omega
      obtain ⟨w', r', e1, H'⟩ := one_of (F := F) H hF (ho _ hm) (hs _ hm)
      rw [decide_eq_true (show (i : Int) < (l.length : Int) by omega), cond_true]
      have e1' : m_hindcastlaw29_one F (T_watch_Watch.mk w.rows w.l w.clashed) (T_hindcastref29_Watch.mk r.Rows r.L r.Clashed) l[i] = _ := e1
      have ec : m_watch_Watch_Clashed F w' = some r'.Clashed := by
        unfold m_watch_Watch_Clashed m_watch_Watch_is
        rw [H'.cl]
        simp only [decide_eq_true H'.ok.r0, Option.bind_some, cond_true]
      simp only [getI_nat, hx, Option.bind_some, e1', Bool.not_true, cond_false, ec, bne_self_eq_false, latest_of (F := F) H'.ok (by omega), rlatest_of (F := F) H' (by omega), agreed_of (F := F) H'.ok (by omega), ragreed_of (F := F) H' (by omega), w1]
      exact plays_loop hF hl ho hs m (i + 1) w' r' (by omega) (by omega) H'
    · rw [decide_eq_false (show ¬ (i : Int) < (l.length : Int) by omega), cond_false]
      exact ⟨_, rfl⟩

theorem plays_pure (hF : 4000 ≤ F) (hwk : m_hindcastlaw29_awake F = some true) (p0 : Int) {l : List T_hindcastlaw29_Act} (ho : ∀ a ∈ l, StOk a.S) : m_hindcastlaw29_WatchPlays F p0 l = some true := by
  unfold m_hindcastlaw29_WatchPlays m_hindcastref29_May m_watch_New
  by_cases hp : 1 ≤ p0 ∧ p0 ≤ 256
  · obtain ⟨b, e2, hb⟩ := few_of (F := F) (by omega) l
    have wp : IntKind.wrap .u64 p0 = p0 := wr_u64 ⟨by omega, by omega⟩
    simp only [decide_eq_true hp.1, decide_eq_true hp.2, decide_eq_false (show ¬ p0 < 1 by omega), decide_eq_false (show ¬ 256 < p0 by omega), cond_true, cond_false, Option.bind_some, poE, Bool.not_true, e2, wp]
    cases b with
    | false => simp only [Bool.not_false, cond_true, hwk, Option.bind_some]
    | true =>
      obtain ⟨h8, hs⟩ := hb rfl
      obtain ⟨o, e3⟩ := plays_loop (F := F) hF h8 ho hs F 0 ⟨p0, [], false⟩ ⟨p0, [], false⟩ (by omega) (by omega) ⟨⟨(show 0 < p0 by omega), List.Pairwise.nil, Nat.zero_le _⟩, rfl, rfl, List.Perm.nil⟩
      rw [show ((0 : Nat) : Int) = 0 from rfl] at e3
      simp only [Bool.not_true, cond_false, e3, Option.bind_some, orE_l, hwk]
  · have h1 : (cond (decide (p0 < 1)) (some true) (some (decide (256 < p0)))) = some true := by
      by_cases h : p0 < 1
      · rw [decide_eq_true h]; rfl
      · rw [decide_eq_false h, decide_eq_true (show 256 < p0 by omega)]; rfl
    have h2 : (cond (decide ((1 : Int) ≤ p0)) (some (decide (p0 ≤ (256 : Int)))) (some false)) = some false := by
      by_cases h : 1 ≤ p0
      · rw [decide_eq_true h, decide_eq_false (show ¬ p0 ≤ 256 by omega)]; rfl
      · rw [decide_eq_false h]; rfl
    simp only [h1, h2, Option.bind_some, cond_true, poE, Bool.not_false, hwk]

theorem plays_awake : m_hindcastlaw29_awake 4000 = some true := by kernel_rfl

theorem act_rd {W : World} {m : Nat} {cs : List Value} (h : Rdw TT W (m + 5) 43 cs) :
    ∃ p : T_hindcastlaw29_Act × G, cs = cg_T_hindcastlaw29_Act p ∧ (StOk p.1.S ∧ p.2.2.1 = (sh_T_hindcastlaw29_Act p.1).length ∧ p.2.2.1 ≤ p.2.2.2 ∧ Rds W [] [] p.2.1 (flat c_T_api_Shot (sh_T_hindcastlaw29_Act p.1)) ∧ (p.2.1 = none → p.2.2.2 = 0)) := by
  obtain ⟨hl, hf⟩ := rd_struct h rfl
  match cs, hl with
  | [c0, d0, e0, c1, c2, c3, c4, c5, c6, c7, c8, c9, c10, c11, c12, c13, c14, c15, c16, c17, c18, c19], _ =>
    obtain ⟨w, rfl, ww⟩ := rd_cell (hf (5, 0) (by simp)) rfl
    obtain ⟨f, rfl, wf⟩ := rd_cell (hf (29, 1) (by simp)) rfl
    obtain ⟨n, rfl, wn⟩ := rd_cell (hf (29, 2) (by simp)) rfl
    have hS : Rdw TT W (m + 4) 41 [c1, c2, c3, c4, c5, c6, c7, c8, c9, c10, c11, c12, c13, c14, c15, c16, c17, c18, c19] := hf (41, 3) (by simp)
    obtain ⟨s, a, k, cap, hc, hn, hcap, hr, hok, hz⟩ := state_rdz hS
    refine ⟨(⟨w, f, n, s⟩, (a, k, cap)), ?_, ⟨hok, hn, hcap, hr, hz⟩⟩
    simp only [List.cons.injEq, and_true] at hc
    obtain ⟨rfl, rfl, rfl, rfl, rfl, rfl, rfl, rfl, rfl, rfl, rfl, rfl, rfl, rfl, rfl, rfl, rfl, rfl, rfl⟩ := hc
    rfl

theorem watchPlays_walk (W : World) (hG : Rds W [] [] (some ⟨0, 0, none⟩) (flat (fun _ : Unit => gl_state_playerBounds) [()]) ∧ Rds W [] [] (some ⟨1, 0, none⟩) (flat (fun _ : Unit => gl_state_shotBounds) [()]))
    (v0 v1 : Value) (R0 : Rdw TT W 8 3 [v0]) (R1 : Rdw TT W 8 22 [v1]) :
    Calls Tryd.prog 3 #[v0, v1] W fun e w' => e = .returned (.bool true) ∧ Inv W [] w' [] := by
  obtain ⟨p, rfl, wp⟩ := rd_cell R0 rfl
  obtain ⟨a, n, cap, gx, rfl, hn, hc, _, hr, hok⟩ := rd_list (enc := cg_T_hindcastlaw29_Act) (ok := fun p => StOk p.1.S ∧ p.2.2.1 = (sh_T_hindcastlaw29_Act p.1).length ∧ p.2.2.1 ≤ p.2.2.2 ∧ Rds W [] [] p.2.1 (flat c_T_api_Shot (sh_T_hindcastlaw29_Act p.1)) ∧ (p.2.1 = none → p.2.2.2 = 0)) R1 rfl rfl cg_T_hindcastlaw29_Act_len (fun es _ h => act_rd h)
  have ho : ∀ a ∈ unG gx, StOk a.S := by
    intro a ha
    obtain ⟨q, hq, rfl⟩ := List.mem_map.1 ha
    exact (hok q hq).1
  have hA : AllRd sh_T_hindcastlaw29_Act c_T_api_Shot W [] [] gx := fun q hq => (hok q hq).2
  exact (k_hindcastlaw29_WatchPlays (p1g0 := gx) (by rw [unG_length]; exact hn) hc rfl (plays_pure (F := 4000) (by omega) plays_awake p ho)).run W ⟨hr, hA, hG⟩

noncomputable def watchPlays_world (os : Os) : World :=
  { World.holding Tryd.prog os ⟨#[], #[], []⟩ with heap := ((World.holding Tryd.prog os ⟨#[], #[], []⟩).heap.modify 0 fun | .cells _ t frozen => .cells gl_state_playerBounds.toArray t frozen | o => o).modify 1 fun | .cells _ t frozen => .cells gl_state_shotBounds.toArray t frozen | o => o }
theorem watchPlays_laid_met (os : Os) : laidMet Tryd.prog Rows.watchPlaysRow.laid ((watchPlays_world os).forCall (fun _ _ => 0) ⟨#[], #[.int .i64 0, .slice none 0 0], []⟩).memory := laidMet_of_run' 8 (by kernel_rfl) (by kernel_rfl)
theorem watchPlays_reads (os : Os) {H : Type} (enc : TypeId × Value → H) : ∃ places, DataW.whole enc Tryd.prog ((watchPlays_world os).forCall (fun _ _ => 0) ⟨#[], #[.int .i64 0, .slice none 0 0], []⟩).memory Tryd.f3.params.toList Rows.watchPlaysSpec.vars false (#[.int .i64 0, .slice none 0 0] : Array Value).toList 8 = some ([.lit (.int .i64 0), .nil], [], places) := ⟨[], by kernel_rfl⟩
set_option maxRecDepth 100000 in
theorem watchPlays_lifted (os : Os) (started : os.Started) (H : Type) (enc : TypeId × Value → H) (F : Stop.Interp) :
    ReturnsInHanded {} Tryd.checked os 3 .any ((OpenSpec.ofChange Rows.watchPlaysSpec).preRow enc Tryd.prog Tryd.f3 Rows.watchPlaysRow.domain false Rows.watchPlaysRow.laid) (((OpenSpec.ofChange Rows.watchPlaysSpec).at F).post enc Tryd.prog Tryd.f3 false true false false) := by
  obtain ⟨places, hx⟩ := watchPlays_reads os enc
  refine returnsInHanded_of_row (C := Tryd.checked) (s := OpenSpec.ofChange Rows.watchPlaysSpec) (by kernel_rfl) started (by kernel_rfl) Tryd.func3
    (witness_row_at (enc := enc) (C := Tryd.checked) false (watchPlays_world os) #[.int .i64 0, .slice none 0 0] rfl (by kernel_rfl) (by kernel_rfl) (by kernel_rfl)
      (OpenSpec.preRow_of_cond 8 hx (by kernel_rfl) (fun k hk => by cases hk) (by kernel_rfl) (watchPlays_laid_met os))) ?_
  intro W base args ds gs before hval0 hW hcnd hk0 hsz0 hL _ _
  have hG := laid_cells hL
  have hval : ∀ (j : Nat) t v, Tryd.f3.params[j]? = some t → args[j]? = some v → Value.okWide Tryd.prog W .any base t v := hval0
  have hW' := hW
  obtain ⟨p, q, hA0, hV, rfl, hfz, hnd⟩ := hW
  have hA : DataW.TrodAll enc Tryd.prog W 0 (fun _ => true) true Tryd.f3.params.toList args.toList ds p := hA0
  obtain ⟨rfl, rfl⟩ := trodVars_none hV
  have hsz : ∀ x ∈ DataW.weightsEach Tryd.prog Tryd.f3.params.toList ds, x ≤ maxB := by
    have h1 : (DataW.weightsEach Tryd.prog (Tryd.f3.params.toList ++ []) (ds ++ [])).all (· ≤ reachBytes) = true := hsz0
    simp only [List.append_nil] at h1
    intro x hx; have h2 := List.all_eq_true.1 h1 x hx; simp only [decide_eq_true_eq] at h2; exact h2
  rw [Tryd.params3] at hA hval hsz
  have hR := rdw_all tt_ok ctt_ok (closed_of tt_closed) (fun _ => rfl) 8 hA hsz
  have hback := fun (W2 : World) (hb : Below W.heap.size W W2) => trodAll_below (by kernel_rfl : laidOutB Tryd.prog = true) hb (by kernel_rfl) hA
  obtain ⟨v0, vs0, d0, ds0, p0, q0, hargs, rfl, rfl, h0, r0⟩ := trodAll_cons hA
  obtain ⟨v1, vs1, d1, ds1, p1, q1, rfl, rfl, rfl, h1, r1⟩ := trodAll_cons r0
  obtain ⟨rfl, rfl, rfl⟩ := trodAll_nil r1
  obtain rfl : args = #[v0, v1] := by cases args; simp_all
  have R0 := hR 0 3 v0 rfl rfl
  have e0 := val_one tt_ok (t := 3) rfl (by intro h; cases h) rfl (hval 0 3 v0 rfl rfl)
  rw [e0] at R0
  have R1 := hR 1 22 v1 rfl rfl
  have e1 := val_one tt_ok (t := 22) rfl (by intro h; cases h) rfl (hval 1 22 v1 rfl rfl)
  rw [e1] at R1
  clear hval hval0 hsz hsz0 hR hA0
  refine (watchPlays_walk W hG v0 v1 R0 R1).mono fun e W2 ⟨he, hI⟩ => ?_
  subst he
  exact ⟨_, rfl, _, _, _, [], _, [], hW', trodAll_mk1 (shut_bool Tryd.underlying4 _), hback _ (below_of_inv hI), rfl, (below_of_inv hI).frame _, fun h => by cases h⟩

theorem watchPlays_said : Rows.WatchPlaysSaid :=
  OpenClaim.holds_of_cond 3 Tryd.f3 rfl rfl rfl rfl rfl rfl rfl ⟨rfl, rfl, rfl, rfl, rfl⟩ rfl rfl rfl rfl rfl (by kernel_rfl) Tryd.func3 (by kernel_rfl)
    (of_decide_eq_true (by kernel_rfl)) (by unfold Func.isWrapper; first | (rw [if_pos (by decide +kernel)]; kernel_rfl) | (rw [if_neg (by decide +kernel)]; exact ⟨rfl, rfl⟩))
    (fun os started H enc _ F => by rw [OpenClaim.pre_eq_preRow]; exact watchPlays_lifted os started H enc F)

theorem watchPlays_plain (f : FuncId) (fn : Func) (hf : Tryd.pinned.checked.prog.funcNamed "hindcast/hindcastlaw29.WatchPlays" = some f) (hfn : Tryd.pinned.checked.prog.funcs[f]? = some fn) :
    false = Tryd.pinned.checked.prog.looks [] ∧ ∀ (j : Nat) t, fn.params[j]? = some t → Tryd.pinned.checked.prog.wantsStandIn t = false := by
  obtain rfl : f = 3 := Option.some.inj ((show Tryd.prog.funcNamed "hindcast/hindcastlaw29.WatchPlays" = some 3 by kernel_rfl).symm.trans hf) |>.symm
  obtain rfl : fn = Tryd.f3 := (Option.some.inj (Tryd.func3.symm.trans hfn)).symm
  refine ⟨by kernel_rfl, fun j t ht => ?_⟩
  rw [Tryd.params3] at ht
  have hm : t ∈ [3, 22] := by simpa using Array.mem_of_getElem? ht
  have hall : ([3, 22].all fun u => !Tryd.prog.wantsStandIn u) = true := by kernel_rfl
  exact (show Tryd.prog.wantsStandIn t = false by simpa using List.all_eq_true.1 hall t hm)

theorem watchPlays_holds : Rows.WatchPlaysCardSaid :=
  Claim7.holds_tied_plain_at .later [] _ _ _ _ watchPlays_said (fun _ h => by cases h) (by kernel_rfl) (fun _ h => by cases h) watchPlays_row_tie rfl ⟨rfl, rfl⟩ (by kernel_rfl) rfl watchPlays_plain (by kernel_rfl)

end Go.Proofs.YthlnellnlhkphaaDoor
