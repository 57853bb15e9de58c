/-
  Chapter 29: the law WatchSame: two watches that are told the states of one game, and each other's latest digests, in whatever order, never clash.
-/
import Derived.Test.YthlnellnlhkphaaDoorWatchPure
import Derived.Test.YthlnellnlhkphaaDoorStepProg
import Derived.Test.YthlnellnlhkphaaDoorStateEq
import Derived.Test.YthlnellnlhkphaaDoorStateRow
import Derived.Test.YthlnellnlhkphaaDoorCards
import Derived.Test.YthlnellnlhkphaaDoorTie
import Derived.Test.YthlnellnlhkphaaDoorLaid
import Derived.Test.YthlnellnlhkphaaDoorWalk
import Derived.Deep.DeepHandedRow
namespace Go.Proofs.YthlnellnlhkphaaDoor
open Go.Proofs.YthlnellnlhkphaaDoor.Eng Go.RowKit Go.ChangeShapes Go.WideShapes Go.ChangeAt
set_option linter.unusedSimpArgs false
set_option linter.unusedVariables false
set_option maxHeartbeats 2000000
set_option maxRecDepth 20000

variable {F : Nat}

/-! ### Digests -/
def stp (h c : Int) : Int := IntKind.wrap .u64 ((bits .xor .u64 h (IntKind.wrap .u64 c)) * 1099511628211)
theorem join_loop {s : List UInt8} (hs : s.length ≤ 1000000) : ∀ (m i : Nat) (h : Int), s.length - i < m → i ≤ s.length →
    m_digest_Join_L6 F s m h (i : Int) = some ((s.drop i).foldl (fun h (c : UInt8) => stp h (c.toNat : Int)) h)
  | 0, i, h, hm, _ => by omega
  | m + 1, i, h, hm, hi => by
    rw [m_digest_Join_L6.eq_2]
    by_cases h1 : i < s.length
    · have hx : s[i]? = some s[i] := List.getElem?_eq_getElem h1
      have hw : IntKind.wrap .i64 ((i : Int) + 1) = ((i + 1 : Nat) : Int) := by rw [wr_i64 ⟨by omega, by omega⟩]; omega
      have ih := join_loop hs m (i + 1) (stp h (s[i].toNat : Int)) (by omega) (by omega)
      simp only [decide_eq_true (show (i : Int) < (s.length : Int) by omega), cond_true, getI_nat, hx, Option.bind_some, hw]
      rw [List.drop_eq_getElem_cons h1, List.foldl_cons]
      exact ih
    · simp only [decide_eq_false (show ¬ (i : Int) < (s.length : Int) by omega), cond_false]
      rw [List.drop_of_length_le (by omega)]
      rfl

def joinv (h : Int) (s : List UInt8) : Int := s.foldl (fun h (c : UInt8) => stp h (c.toNat : Int)) h

theorem join_of {s : List UInt8} {h : Int} (hl : s.length < F) (hs : s.length ≤ 1000000) : m_digest_Join F h s = some (joinv h s) := by
  have := join_loop (F := F) (s := s) hs F 0 h (by omega) (by omega)
  simp only [m_digest_Join]
  rw [show (0 : Int) = ((0 : Nat) : Int) from rfl, this]
  rfl


/-- The digest of a state. -/
def dg (s : T_api_State) : Int := joinv 14695981039346656037 (if stGood s then toB (stB s) else [])
theorem dg_of (hF : 4000 ≤ F) {s : T_api_State} (ho : StOk s) (hs : s.Shots.length ≤ 100) : m_digest_Of F s = some (dg s) := by
  have p1 := put_of (F := F) ho (by omega) (by omega) (by omega)
  have hl : (if stGood s then toB (stB s) else []).length ≤ 3000 := by
    split
    · have h1 := vb_length 9 s.Shots.length
      simp [stB, toB_length, iL_length, le_length, plB_length, shsB_length]; omega
    · simp
  have j1 := join_of (F := F) (h := 14695981039346656037) (s := if stGood s then toB (stB s) else []) (by omega) (by omega)
  unfold m_digest_Of dg
  rw [p1, Option.bind_some, j1, Option.bind_some]

theorem last_filter {p : T_watch_entry → Bool} (x : T_watch_entry) (l : List T_watch_entry) : ((x :: l).filter p).getLast? = (match (l.filter p).getLast? with | some y => some y | none => if p x then some x else none) := by
  rw [List.filter_cons]
  cases hp : p x with
  | false =>
    simp only [Bool.false_eq_true, if_false]
    cases (l.filter p).getLast? <;> rfl
  | true =>
    simp only [if_true]
    rw [List.getLast?_cons]
    cases (l.filter p).getLast? <;> rfl

def ownp (x : T_watch_entry) : Bool := x.own.is_
def latv (l : List T_watch_entry) (f n : Int) (b : Bool) : Int × Int × Bool := match (l.filter ownp).getLast? with | some x => (x.f, x.own.n, true) | none => (f, n, b)

section
variable {w : T_watch_Watch}
theorem latest_loop (hl : w.l.length ≤ 100) : ∀ (m i : Nat) (f n : Int) (b : Bool), w.l.length - i < m → i ≤ w.l.length → m_watch_Watch_Latest_L14 F w m f n b (i : Int) = some (latv (w.l.drop i) f n b)
  | 0, i, f, n, b, h, _ => by omega
  | m + 1, i, f, n, b, h, hi => by
    rw [m_watch_Watch_Latest_L14.eq_2]
    by_cases hlt : i < w.l.length
    · have hx : w.l[i]? = some w.l[i] := List.getElem?_eq_getElem hlt
      have w1 : IntKind.wrap .i64 ((i : Int) + 1) = ((i + 1 : Nat) : Int) := by rw [wr_i64 ⟨by omega, by omega⟩]; omega
      have hd : w.l.drop i = w.l[i] :: w.l.drop (i + 1) := by rw [List.getElem_cons_drop]
      rw [decide_eq_true (show (i : Int) < (w.l.length : Int) by omega), cond_true]
      simp only [getI_nat, hx, Option.bind_some, w1, latest_loop hl m (i + 1) _ _ _ (show w.l.length - (i + 1) < m by omega) (show i + 1 ≤ w.l.length by omega)]
      unfold latv
      rw [hd, last_filter]
      generalize w.l[i] = x
      unfold ownp
      cases x.own.is_ <;> cases ((w.l.drop (i + 1)).filter fun x => x.own.is_).getLast? <;> rfl
    · rw [decide_eq_false (show ¬ (i : Int) < (w.l.length : Int) by omega), cond_false, List.drop_of_length_le (by omega)]
      rfl
theorem latest_of (H : WOk w) (hF : 110 ≤ F) : m_watch_Watch_Latest F w = some (latv w.l 0 0 false) := by
  have hl := H.ln
  have h1 := latest_loop (F := F) (w := w) (by omega) F 0 0 0 false (by omega) (by omega)
  rw [show ((0 : Nat) : Int) = 0 from rfl, List.drop_zero] at h1
  unfold m_watch_Watch_Latest m_watch_Watch_is
  simp only [decide_eq_true H.r0, Option.bind_some, Bool.not_true, cond_false, h1]
end

/-! ### A watch that was told what is -/
/-- What is known of a frame is the digest of it. -/
def EnOk (D : Int → Int) (r : Int) (x : T_watch_entry) : Prop := x.f.tmod r = 0 ∧ (x.own.is_ = true → x.own.n = D x.f) ∧ (x.other.is_ = true → x.other.n = D x.f)
structure WS (D : Int → Int) (w : T_watch_Watch) : Prop where
  ok : WOk w
  cl : w.clashed = false
  en : ∀ x ∈ w.l, EnOk D w.rows x

section
variable {D : Int → Int} {w : T_watch_Watch}
theorem mem_atv {l l' : List T_watch_entry} {f : Int} {i : Nat} (h : atv l f = some (l', i)) {y : T_watch_entry} (hy : y ∈ l') : y ∈ l ∨ y = newE f := by
  have hins : ∀ y, y ∈ insE l f → y ∈ l ∨ y = newE f := by
    intro y hy
    unfold insE at hy
    rcases List.mem_append.1 hy with h | h
    · rcases List.mem_append.1 h with h | h
      · exact .inl (List.mem_of_mem_take h)
      · exact .inr (List.mem_singleton.1 h)
    · exact .inl (List.mem_of_mem_drop h)
  unfold atv at h
  split at h
  · simp only [Option.some.injEq, Prod.mk.injEq] at h
    obtain ⟨rfl, rfl⟩ := h
    exact .inl hy
  · split at h
    · simp only [Option.some.injEq, Prod.mk.injEq] at h
      obtain ⟨rfl, rfl⟩ := h
      exact hins y hy
    · split at h
      · cases h
      · simp only [Option.some.injEq, Prod.mk.injEq] at h
        obtain ⟨rfl, rfl⟩ := h
        exact hins y (List.mem_of_mem_drop hy)
theorem put_en {s : Bool} {r : Int} {x : T_watch_entry} (h : EnOk D r x) : EnOk D r (putE s x (D x.f)) := by
  unfold putE
  split
  · exact h
  · split
    · exact ⟨h.1, h.2.1, fun _ => rfl⟩
    · exact ⟨h.1, fun _ => rfl, h.2.2⟩
theorem odd_en {r : Int} {x : T_watch_entry} (h : EnOk D r x) : odd x = false := by
  obtain ⟨_, h1, h2⟩ := h
  unfold odd
  cases ho : x.own.is_ with
  | false => rfl
  | true =>
    cases ht : x.other.is_ with
    | false => rfl
    | true => rw [h1 ho, h2 ht]; simp
theorem side_en {s : Bool} {r : Int} {x : T_watch_entry} (h : EnOk D r x) : ((sideE s x).is_ && (sideE s x).n != D x.f) = false := by
  obtain ⟨_, h1, h2⟩ := h
  unfold sideE
  cases s with
  | false =>
    simp only [Bool.false_eq_true, if_false]
    cases ho : x.own.is_ with
    | false => rfl
    | true => rw [h1 ho]; simp
  | true =>
    simp only [if_true]
    cases ho : x.other.is_ with
    | false => rfl
    | true => rw [h2 ho]; simp
theorem told_ws (H : WS D w) (s : Bool) {f : Int} (hf : f.tmod w.rows = 0) : ∃ w', toldv s w f (D f) = (w', 0) ∧ WS D w' ∧ w'.rows = w.rows := by
  have hk := toldv_ok (s := s) H.ok f (D f)
  have e : ∃ w', toldv s w f (D f) = (w', 0) ∧ w'.clashed = false ∧ (∀ x ∈ w'.l, EnOk D w'.rows x) ∧ w'.rows = w.rows := by
    unfold toldv
    rw [if_neg (by simpa using hf)]
    cases ha : atv w.l f with
    | none => exact ⟨w, by simp only [H.cl]; rfl, H.cl, H.en, rfl⟩
    | some q =>
      obtain ⟨l', i⟩ := q
      obtain ⟨x, hx, rfl⟩ := atv_get ha
      have hen : ∀ y ∈ l', EnOk D w.rows y := by
        intro y hy
        rcases mem_atv ha hy with h | rfl
        · exact H.en y h
        · exact ⟨hf, (fun h => by cases h), (fun h => by cases h)⟩
      have hxe := hen x (List.mem_of_getElem? hx)
      have hp := put_en (s := s) hxe
      simp only [hx, H.cl, side_en hxe, odd_en hp, Bool.or_false, Bool.false_eq_true, if_false]
      refine ⟨_, rfl, rfl, ?_, rfl⟩
      intro y hy
      rcases List.mem_or_eq_of_mem_set hy with h | rfl
      · exact hen y h
      · exact hp
  obtain ⟨w', e1, e2, e3, e4⟩ := e
  rw [e1] at hk
  exact ⟨w', e1, ⟨hk, e2, e3⟩, e4⟩
theorem state_ws (H : WS D w) (hF : 4000 ≤ F) {s : T_api_State} (ho : StOk s) (hs : s.Shots.length ≤ 100) (hd : D s.Frame = dg s) :
    ∃ w', m_watch_Watch_State F w s = some (w', 0) ∧ WS D w' ∧ w'.rows = w.rows := by
  have hr := H.ok.r0
  unfold m_watch_Watch_State m_watch_Watch_is remI
  simp only [decide_eq_true hr, Option.bind_some, Bool.not_true, cond_false, if_neg (show ¬ w.rows = 0 by omega)]
  cases hm : (s.Frame.tmod w.rows != 0) with
  | true => exact ⟨w, rfl, H, rfl⟩
  | false =>
    obtain ⟨w', e1, e2, e3⟩ := told_ws H false (f := s.Frame) (by simpa using hm)
    rw [hd] at e1
    simp only [cond_false, dg_of hF ho hs, Option.bind_some, own_of H.ok (show 110 ≤ F by omega), e1]
    exact ⟨w', rfl, e2, e3⟩
theorem other_ws (H : WS D w) (hF : 4000 ≤ F) {f n : Int} (hn : n = D f) (hf : f.tmod w.rows = 0) : ∃ w', m_watch_Watch_Other F w f n = some (w', 0) ∧ WS D w' ∧ w'.rows = w.rows := by
  obtain ⟨w', e1, e2, e3⟩ := told_ws H true hf
  rw [other_of H.ok (show 110 ≤ F by omega), hn, e1]
  exact ⟨w', rfl, e2, e3⟩
theorem latest_ws (H : WS D w) (hF : 4000 ≤ F) : ∃ f n b, m_watch_Watch_Latest F w = some (f, n, b) ∧ (b = true → n = D f ∧ f.tmod w.rows = 0) := by
  rw [latest_of H.ok (show 110 ≤ F by omega)]
  unfold latv
  cases h : (w.l.filter ownp).getLast? with
  | none => exact ⟨0, 0, false, rfl, fun h => by cases h⟩
  | some x =>
    have hm : x ∈ w.l.filter ownp := List.mem_of_getLast? h
    obtain ⟨h1, h2⟩ := List.mem_filter.1 hm
    obtain ⟨q1, q2, q3⟩ := H.en x h1
    exact ⟨x.f, x.own.n, true, rfl, fun _ => ⟨q2 h2, q1⟩⟩
theorem clashed_ws (H : WS D w) : m_watch_Watch_Clashed F w = some false := by
  unfold m_watch_Watch_Clashed m_watch_Watch_is
  rw [H.cl]
  simp only [decide_eq_true H.ok.r0, Option.bind_some, cond_true]
end

/-! ### The states of one game -/
def startS (d : Int) : T_api_State := ⟨0, d, (⟨8192, 14336, 0, 0, 100, 0, 0⟩, ⟨53248, 14336, 0, 0, 100, 0, 1⟩), [], (0, 0)⟩
theorem startP1 : PlOk ⟨8192, 14336, 0, 0, 100, 0, 0⟩ := ⟨by decide, by decide, by decide, by decide, by decide, by decide, by decide⟩
theorem startP2 : PlOk ⟨53248, 14336, 0, 0, 100, 0, 1⟩ := ⟨by decide, by decide, by decide, by decide, by decide, by decide, by decide⟩
theorem start_ok {d : Int} (h : 0 ≤ d ∧ d ≤ 18446744073709551615) : StOk (startS d) := ⟨⟨Int.le_refl 0, by show (0 : Int) ≤ _; omega⟩, h, startP1, startP2, (fun x hx => absurd hx (List.not_mem_nil)), ⟨Int.le_refl 0, by show (0 : Int) ≤ _; omega⟩, ⟨Int.le_refl 0, by show (0 : Int) ≤ _; omega⟩⟩
theorem start_good (d : Int) : stGood (startS d) = true := rfl
theorem start_is (hF : 3 ≤ F) (d : Int) : m_state_Start F d = some (startS d) := start_of hF

structure AllOk (A : List T_api_State) (z : T_api_State) (n : Nat) : Prop where
  len : A.length = n + 1
  lst : A[n]? = some z
  st : ∀ s ∈ A, StOk s ∧ stGood s = true ∧ s.Frame ≤ z.Frame
  one : ∀ s ∈ A, ∀ t ∈ A, s.Frame = t.Frame → s = t
  fr : z.Frame ≤ (n : Int)

theorem all_start {d : Int} (h : 0 ≤ d ∧ d ≤ 18446744073709551615) : AllOk [startS d] (startS d) 0 := by
  refine ⟨rfl, rfl, ?_, ?_, Int.le_refl 0⟩
  · intro s hs
    rw [List.mem_singleton.1 hs]
    exact ⟨start_ok h, start_good d, Int.le_refl _⟩
  · intro s hs t ht _
    rw [List.mem_singleton.1 hs, List.mem_singleton.1 ht]

theorem all_step {A : List T_api_State} {z : T_api_State} {n : Nat} (H : AllOk A z n) (hn : n ≤ 1000) (i j : Int) : AllOk (A ++ [stepv z i j]) (stepv z i j) (n + 1) := by
  have hz := H.st z (List.mem_of_getElem? H.lst)
  have hf := H.fr
  have h0 := hz.1.Frame
  have hy : stepv z i j = z ∨ (stepv z i j).Frame = z.Frame + 1 := by
    unfold stepv
    split
    · right
      show IntKind.wrap .u64 (z.Frame + 1) = _
      exact wr_u64 ⟨by omega, by omega⟩
    · exact .inl rfl
  have hso := step_ok (i := i) (j := j) hz.1
  have hsg := step_good (i := i) (j := j) hz.1 hz.2.1
  have hle : z.Frame ≤ (stepv z i j).Frame ∧ (stepv z i j).Frame ≤ z.Frame + 1 := by
    rcases hy with h | h
    · rw [h]; omega
    · omega
  have hone : ∀ s ∈ A, s.Frame = (stepv z i j).Frame → s = stepv z i j := by
    intro s hs he
    rcases hy with h | h
    · rw [h] at he ⊢
      exact H.one s hs z (List.mem_of_getElem? H.lst) he
    · have := (H.st s hs).2.2
      omega
  refine ⟨by rw [List.length_append, H.len]; rfl, ?_, ?_, ?_, by omega⟩
  · rw [List.getElem?_append_right (by rw [H.len]; omega), H.len]
    simp
  · intro s hs
    rcases List.mem_append.1 hs with h | h
    · obtain ⟨a, b, c⟩ := H.st s h
      exact ⟨a, b, by omega⟩
    · rw [List.mem_singleton.1 h]
      exact ⟨hso, hsg, Int.le_refl _⟩
  · intro s hs t ht he
    rcases List.mem_append.1 hs with h | h
    · rcases List.mem_append.1 ht with h' | h'
      · exact H.one s h t h' he
      · rw [List.mem_singleton.1 h'] at he ⊢
        exact hone s h he
    · rw [List.mem_singleton.1 h] at he ⊢
      rcases List.mem_append.1 ht with h' | h'
      · exact (hone t h' he.symm).symm
      · rw [List.mem_singleton.1 h']

/-- The digest of a frame of them. -/
def dgs (A : List T_api_State) (f : Int) : Int := match A.find? (fun s => s.Frame == f) with | some s => dg s | none => 0
theorem dgs_of {A : List T_api_State} {z : T_api_State} {n : Nat} (H : AllOk A z n) {s : T_api_State} (hs : s ∈ A) : dgs A s.Frame = dg s := by
  unfold dgs
  cases h : A.find? (fun t => t.Frame == s.Frame) with
  | none =>
    have := List.find?_eq_none.1 h s hs
    simp at this
  | some t =>
    have h1 := List.mem_of_find?_eq_some h
    have h2 : t.Frame = s.Frame := by simpa using List.find?_some h
    rw [H.one t h1 s hs h2]

theorem all_loop (hF : 4000 ≤ F) {l : List (Int × Int)} (hl : l.length ≤ 60) : ∀ (m i : Nat) (A : List T_api_State) (z : T_api_State), l.length - i < m → i ≤ l.length → AllOk A z i →
    ∃ A' z', m_hindcastlaw29_WatchSame_L28 F l m A (i : Int) = some A' ∧ AllOk A' z' l.length
  | 0, i, A, z, h, _, _ => by omega
  | m + 1, i, A, z, h, hi, H => by
    rw [m_hindcastlaw29_WatchSame_L28.eq_2]
    by_cases hlt : i < l.length
    · have hx : l[i]? = some l[i] := List.getElem?_eq_getElem hlt
      have w1 : IntKind.wrap .i64 ((i : Int) + 1) = ((i + 1 : Nat) : Int) := by rw [wr_i64 ⟨by omega, by omega⟩]; omega
      have w2 : IntKind.wrap .i64 ((A.length : Int) - 1) = (i : Int) := by rw [H.len, wr_i64 ⟨by omega, by omega⟩]; omega
      have hz := H.st z (List.mem_of_getElem? H.lst)
      have h8 := stGood_le hz.2.1
      have hs := step_of (F := F) (s := z) (i := l[i].1) (j := l[i].2) hz.1 (by omega) (by omega)
      have hs' : m_step_Step F z l[i] = _ := hs
      have ha : appI A [stepv z l[i].1 l[i].2] = some (A ++ [stepv z l[i].1 l[i].2]) := appI_of (by rw [H.len]; simp; omega)
      obtain ⟨A', z', e, H'⟩ := all_loop hF hl m (i + 1) _ _ (by omega) (by omega) (all_step H (by omega) l[i].1 l[i].2)
      refine ⟨A', z', ?_, H'⟩
      rw [← e, decide_eq_true (show (i : Int) < (l.length : Int) by omega), cond_true]
      simp only [w1, w2, getI_nat, H.lst, hx, Option.bind_some, hs', ha]
    · rw [decide_eq_false (show ¬ (i : Int) < (l.length : Int) by omega), cond_false]
      obtain rfl : i = l.length := by omega
      exact ⟨A, z, rfl, H⟩

structure OrdOk (o : T_hindcastlaw29_Order) : Prop where
  s : 0 ≤ o.Side ∧ o.Side ≤ 255
  a : 0 ≤ o.At ∧ o.At ≤ 255

theorem same_loop (hF : 4000 ≤ F) {D : Int → Int} {A : List T_api_State} (hA0 : 0 < A.length) (hA1 : A.length ≤ 1000) (hA : ∀ s ∈ A, StOk s ∧ s.Shots.length ≤ 100 ∧ D s.Frame = dg s) {l : List T_hindcastlaw29_Order} (hl : l.length ≤ 150) (ho : ∀ o ∈ l, OrdOk o) :
    ∀ (m i : Nat) (w x : T_watch_Watch), l.length - i < m → i ≤ l.length → WS D w → WS D x → w.rows = x.rows →
    ∃ w' x', m_hindcastlaw29_WatchSame_L45 F l A m (i : Int) w.rows w.l w.clashed x.rows x.l x.clashed = some (.inl (false, w'.rows, w'.l, w'.clashed, x'.rows, x'.l, x'.clashed)) ∧ WS D w' ∧ WS D x'
  | 0, i, w, x, h, _, _, _, _ => by omega
  | m + 1, i, w, x, h, hi, H, H', hr => by
    rw [m_hindcastlaw29_WatchSame_L45.eq_2]
    by_cases hlt : i < l.length
    · have hx : l[i]? = some l[i] := List.getElem?_eq_getElem hlt
      have hok := ho _ (List.getElem_mem hlt)
      generalize l[i] = o at hx hok
      have w1 : IntKind.wrap .i64 ((i : Int) + 1) = ((i + 1 : Nat) : Int) := by rw [wr_i64 ⟨by omega, by omega⟩]; omega
      obtain ⟨a, ha⟩ := Int.eq_ofNat_of_zero_le hok.a.1
      obtain ⟨sd, hsd⟩ := Int.eq_ofNat_of_zero_le hok.s.1
      have ha2 := hok.a.2
      have w2 : IntKind.wrap .i64 o.At = (a : Int) := by rw [wr_i64 ⟨by omega, by omega⟩]; exact ha
      have hre : remI (a : Int) (A.length : Int) = some ((a % A.length : Nat) : Int) := by
        unfold remI
        rw [if_neg (by omega)]
        rfl
      have hml : a % A.length < A.length := Nat.mod_lt _ hA0
      have hs : A[a % A.length]? = some (A[a % A.length]'hml) := List.getElem?_eq_getElem _
      obtain ⟨so, sl, sdg⟩ := hA _ (List.getElem_mem hml)
      generalize A[a % A.length]'hml = s at hs so sl sdg
      have hwe : T_watch_Watch.mk w.rows w.l w.clashed = w := rfl
      have hxe : T_watch_Watch.mk x.rows x.l x.clashed = x := rfl
      have h2 : sd % 2 < 2 := Nat.mod_lt _ (by omega)
      have b10 : ((1 : Int) == 0) = false := rfl
      have b01 : ((0 : Int) == 1) = false := rfl
      have z10 : IntKind.wrap .i64 ((1 : Int) - 0) = 1 := by decide
      have z11 : IntKind.wrap .i64 ((1 : Int) - 1) = 0 := by decide
      rw [decide_eq_true (show (i : Int) < (l.length : Int) by omega), cond_true]
      simp only [getI_nat, hx, Option.bind_some, w1, w2, hre, hs, hwe, hxe]
      by_cases h0 : sd % 2 = 0
      · have hk : IntKind.wrap .i64 (Int.tmod o.Side 2) = 0 := by
          rw [hsd]
          have : Int.tmod (sd : Int) 2 = ((sd % 2 : Nat) : Int) := rfl
          rw [this, h0]
          decide
        obtain ⟨w', e1, H1, r1⟩ := state_ws H hF so sl sdg
        obtain ⟨f, n, b, e2, hb⟩ := latest_ws H1 hF
        simp only [hk, beq_self_eq_true, cond_true, e1, Option.bind_some, bne_self_eq_false, cond_false, e2, z10, b10]
        have key : ∀ c : Bool, c = (b && !o.Lost) → ∃ x', (cond c (Option.bind (m_watch_Watch_Other F x f n) fun z => some (z.2 != 0, w'.rows, w'.l, w'.clashed, z.1.rows, z.1.l, z.1.clashed)) (some (false, w'.rows, w'.l, w'.clashed, x.rows, x.l, x.clashed))) = some (false, w'.rows, w'.l, w'.clashed, x'.rows, x'.l, x'.clashed) ∧ WS D x' ∧ x'.rows = x.rows := by
          intro c hc
          cases c with
          | false => exact ⟨x, rfl, H', rfl⟩
          | true =>
            have hbt : b = true := by cases b with | true => rfl | false => cases hc
            obtain ⟨q1, q2⟩ := hb hbt
            obtain ⟨x', e3, H2, r2⟩ := other_ws H' hF q1 (by rw [← hr, ← r1]; exact q2)
            refine ⟨x', ?_, H2, r2⟩
            rw [cond_true, e3, Option.bind_some]
            rfl
        have hcc : (cond b (some (!o.Lost)) (some false)) = some (b && !o.Lost) := by cases b <;> rfl
        obtain ⟨x', e4, H2, r2⟩ := key _ rfl
        obtain ⟨w9, x9, e5, R1, R2⟩ := same_loop hF hA0 hA1 hA hl ho m (i + 1) w' x' (by omega) (by omega) H1 H2 (by rw [r1, r2]; exact hr)
        refine ⟨w9, x9, ?_, R1, R2⟩
        rw [hcc, Option.bind_some]
        have e4' : (cond (b && !o.Lost) (Option.bind (m_watch_Watch_Other F x f n) fun (za, v) => some (v != 0, w'.rows, w'.l, w'.clashed, za.rows, za.l, za.clashed)) (some (false, w'.rows, w'.l, w'.clashed, x.rows, x.l, x.clashed))) = _ := e4
        rw [e4', Option.bind_some]
        exact e5
      · have h1 : sd % 2 = 1 := by omega
        have hk : IntKind.wrap .i64 (Int.tmod o.Side 2) = 1 := by
          rw [hsd]
          have : Int.tmod (sd : Int) 2 = ((sd % 2 : Nat) : Int) := rfl
          rw [this, h1]
          decide
        obtain ⟨x', e1, H1, r1⟩ := state_ws H' hF so sl sdg
        obtain ⟨f, n, b, e2, hb⟩ := latest_ws H1 hF
        simp only [hk, b10, beq_self_eq_true, cond_true, e1, Option.bind_some, bne_self_eq_false, cond_false, e2, z11]
        have key : ∀ c : Bool, c = (b && !o.Lost) → ∃ w', (cond c (Option.bind (m_watch_Watch_Other F w f n) fun z => some (z.2 != 0, z.1.rows, z.1.l, z.1.clashed, x'.rows, x'.l, x'.clashed)) (some (false, w.rows, w.l, w.clashed, x'.rows, x'.l, x'.clashed))) = some (false, w'.rows, w'.l, w'.clashed, x'.rows, x'.l, x'.clashed) ∧ WS D w' ∧ w'.rows = w.rows := by
          intro c hc
          cases c with
          | false => exact ⟨w, rfl, H, rfl⟩
          | true =>
            have hbt : b = true := by cases b with | true => rfl | false => cases hc
            obtain ⟨q1, q2⟩ := hb hbt
            obtain ⟨w', e3, H2, r2⟩ := other_ws H hF q1 (by rw [hr, ← r1]; exact q2)
            refine ⟨w', ?_, H2, r2⟩
            rw [cond_true, e3, Option.bind_some]
            rfl
        have hcc : (cond b (some (!o.Lost)) (some false)) = some (b && !o.Lost) := by cases b <;> rfl
        obtain ⟨w', e4, H2, r2⟩ := key _ rfl
        obtain ⟨w9, x9, e5, R1, R2⟩ := same_loop hF hA0 hA1 hA hl ho m (i + 1) w' x' (by omega) (by omega) H2 H1 (by rw [r1, r2]; exact hr)
        refine ⟨w9, x9, ?_, R1, R2⟩
        rw [hcc, Option.bind_some]
        have e4' : (cond (b && !o.Lost) (Option.bind (m_watch_Watch_Other F w f n) fun (za, v) => some (v != 0, za.rows, za.l, za.clashed, x'.rows, x'.l, x'.clashed)) (some (false, w.rows, w.l, w.clashed, x'.rows, x'.l, x'.clashed))) = _ := e4
        rw [e4', Option.bind_some]
        exact e5
    · rw [decide_eq_false (show ¬ (i : Int) < (l.length : Int) by omega), cond_false]
      exact ⟨w, x, rfl, H, H'⟩

theorem new_of {r : Int} (h : 1 ≤ r ∧ r ≤ 256) : m_watch_New F r = some (some ⟨r, [], false⟩) := by
  unfold m_watch_New
  have wp : IntKind.wrap .u64 r = r := wr_u64 ⟨by omega, by omega⟩
  simp only [decide_eq_false (show ¬ r < 1 by omega), decide_eq_false (show ¬ 256 < r by omega), cond_false, Option.bind_some, wp]

theorem same_pure (hF : 4000 ≤ F) (hwk : m_hindcastlaw29_awake F = some true) {p0 : Int} (hp : 0 ≤ p0 ∧ p0 ≤ 18446744073709551615) {l : List (Int × Int)} {q : List T_hindcastlaw29_Order} (ho : ∀ o ∈ q, OrdOk o) : m_hindcastlaw29_WatchSame F p0 l q = some true := by
  unfold m_hindcastlaw29_WatchSame
  by_cases hb : l.length ≤ 60 ∧ q.length ≤ 150
  · obtain ⟨r, hr, hr1⟩ : ∃ r, IntKind.wrap .i64 ((1 : Int) + (IntKind.wrap .i64 (Int.tmod p0 16))) = r ∧ 1 ≤ r ∧ r ≤ 16 := by
      obtain ⟨a, ha⟩ := Int.eq_ofNat_of_zero_le hp.1
      have e : Int.tmod p0 16 = ((a % 16 : Nat) : Int) := by rw [ha]; rfl
      have hlt : a % 16 < 16 := Nat.mod_lt _ (by omega)
      refine ⟨1 + ((a % 16 : Nat) : Int), ?_, by omega, by omega⟩
      rw [e, wr_i64 (x := ((a % 16 : Nat) : Int)) ⟨by omega, by omega⟩, wr_i64 ⟨by omega, by omega⟩]
    obtain ⟨A, z, e1, HA⟩ := all_loop (F := F) hF hb.1 F 0 [startS p0] (startS p0) (by omega) (by omega) (all_start hp)
    have e1' : m_hindcastlaw29_WatchSame_L28 F l F ([startS p0] : List T_api_State) 0 = _ := e1
    have hA : ∀ s ∈ A, StOk s ∧ s.Shots.length ≤ 100 ∧ dgs A s.Frame = dg s := fun s hs => ⟨(HA.st s hs).1, by have := stGood_le (HA.st s hs).2.1; omega, dgs_of HA hs⟩
    have hws : WS (dgs A) ⟨r, [], false⟩ := ⟨⟨by show 0 < r; omega, List.Pairwise.nil, Nat.zero_le _⟩, rfl, fun x hx => absurd hx (List.not_mem_nil)⟩
    obtain ⟨w', x', e2, H1, H2⟩ := same_loop (F := F) hF (by rw [HA.len]; omega) (by rw [HA.len]; omega) hA hb.2 ho F 0 ⟨r, [], false⟩ ⟨r, [], false⟩ (by omega) (by omega) hws hws rfl
    have e2' : m_hindcastlaw29_WatchSame_L45 F q A F 0 r [] false r [] false = _ := e2
    have c1 : m_watch_Watch_Clashed F (T_watch_Watch.mk w'.rows w'.l w'.clashed) = some false := clashed_ws H1
    have c2 : m_watch_Watch_Clashed F (T_watch_Watch.mk x'.rows x'.l x'.clashed) = some false := clashed_ws H2
    simp only [hr, decide_eq_false (show ¬ (60 : Int) < (l.length : Int) by omega), decide_eq_false (show ¬ (150 : Int) < (q.length : Int) by omega), cond_false, Option.bind_some, new_of (F := F) (r := r) ⟨by omega, by omega⟩, poE, start_is (F := F) (show 3 ≤ F by omega), e1', e2', orE_l, c1, c2, Bool.not_false, cond_true, hwk]
  · have h1 : (cond (decide ((60 : Int) < (l.length : Int))) (some true) (some (decide ((150 : Int) < (q.length : Int))))) = some true := by
      by_cases h : (60 : Int) < (l.length : Int)
      · rw [decide_eq_true h]; rfl
      · rw [decide_eq_false h, decide_eq_true (show (150 : Int) < (q.length : Int) by omega)]; rfl
    simp only [h1, Option.bind_some, cond_true, hwk]

theorem same_awake : m_hindcastlaw29_awake 4000 = some true := by kernel_rfl

theorem rd_bool' {w : World} {m : Nat} {t sz by' : Nat} {z : Option (List Value)} {cs : List Value} (h : Rdw TT w (m + 1) t cs) (hl : lookT TT t = some ⟨.bool, sz, by', z⟩) : ∃ b, cs = [.bool b] := by
  unfold Rdw at h; rw [hl] at h; exact h
theorem order_rd {w : World} {m : Nat} {cs : List Value} (h : Rdw TT w (m + 2) 66 cs) : ∃ x : T_hindcastlaw29_Order, cs = c_T_hindcastlaw29_Order x ∧ OrdOk x := by
  obtain ⟨hl, hf⟩ := rd_struct h rfl
  match cs, hl with
  | [a, b, d], _ =>
    obtain ⟨x, rfl, wx⟩ := rd_cell (hf (5, 0) (by simp)) rfl
    obtain ⟨y, rfl, wy⟩ := rd_cell (hf (5, 1) (by simp)) rfl
    have h3 : Rdw TT w (m + 1) 4 [d] := hf (4, 2) (by simp)
    obtain ⟨z, hz⟩ := rd_bool' h3 rfl
    obtain rfl : d = .bool z := (List.cons.inj hz).1
    exact ⟨⟨x, y, z⟩, rfl, ⟨wf_u8 wx, wf_u8 wy⟩⟩
theorem pair_rd {w : World} {m : Nat} {cs : List Value} (h : Rdw TT w (m + 2) 64 cs) : ∃ x : Int × Int, cs = e2 .u8 x ∧ True := by
  obtain ⟨hl, hf⟩ := rd_arr h rfl
  match cs, hl with
  | [a, b], _ =>
    obtain ⟨x, rfl, wx⟩ := rd_cell (hf 0 (by omega)) rfl
    obtain ⟨y, rfl, wy⟩ := rd_cell (hf 1 (by omega)) rfl
    exact ⟨(x, y), rfl, trivial⟩

theorem watchSame_walk (W : World) (hG : Rds W [] [] (some ⟨0, 0, none⟩) (flat (fun _ : Unit => gl_state_playerBounds) [()]) ∧ Rds W [] [] (some ⟨1, 0, none⟩) (flat (fun _ : Unit => gl_state_shotBounds) [()]))
    (v0 v1 v2 : Value) (R0 : Rdw TT W 8 29 [v0]) (R1 : Rdw TT W 8 57 [v1]) (R2 : Rdw TT W 8 58 [v2]) :
    Calls Tryd.prog 5 #[v0, v1, v2] W fun e w' => e = .returned (.bool true) ∧ Inv W [] w' [] := by
  obtain ⟨p, rfl, wp⟩ := rd_cell R0 rfl
  obtain ⟨a1, n1, cap1, xs, rfl, hn1, hc1, _, hr1, hp⟩ := rd_list (enc := e2 .u8) (ok := fun x : Int × Int => True) R1 rfl rfl (e2_len _) (fun es _ h => pair_rd h)
  obtain ⟨a2, n2, cap2, ys, rfl, hn2, hc2, _, hr2, hq⟩ := rd_list (enc := c_T_hindcastlaw29_Order) (ok := OrdOk) R2 rfl rfl c_T_hindcastlaw29_Order_len (fun es _ h => order_rd h)
  exact (k_hindcastlaw29_WatchSame hn1 hc1 hn2 hc2 (same_pure (F := 4000) (by omega) same_awake (wf_u64 wp) hq)).run W ⟨hr1, hr2, hG⟩

noncomputable def watchSame_world (os : Os) : World :=
  { World.holding Tryd.prog os ⟨#[], #[], []⟩ with heap := ((World.holding Tryd.prog os ⟨#[], #[], []⟩).heap.modify 0 fun | .cells _ t frozen => .cells gl_state_playerBounds.toArray t frozen | o => o).modify 1 fun | .cells _ t frozen => .cells gl_state_shotBounds.toArray t frozen | o => o }
theorem watchSame_laid_met (os : Os) : laidMet Tryd.prog Rows.watchSameRow.laid ((watchSame_world os).forCall (fun _ _ => 0) ⟨#[], #[.int .u64 0, .slice none 0 0, .slice none 0 0], []⟩).memory := laidMet_of_run' 8 (by kernel_rfl) (by kernel_rfl)
theorem watchSame_reads (os : Os) {H : Type} (enc : TypeId × Value → H) : ∃ places, DataW.whole enc Tryd.prog ((watchSame_world os).forCall (fun _ _ => 0) ⟨#[], #[.int .u64 0, .slice none 0 0, .slice none 0 0], []⟩).memory Tryd.f5.params.toList Rows.watchSameSpec.vars false (#[.int .u64 0, .slice none 0 0, .slice none 0 0] : Array Value).toList 8 = some ([.lit (.int .u64 0), .nil, .nil], [], places) := ⟨[], by kernel_rfl⟩
set_option maxRecDepth 100000 in
theorem watchSame_lifted (os : Os) (started : os.Started) (H : Type) (enc : TypeId × Value → H) (F : Stop.Interp) :
    ReturnsInHanded {} Tryd.checked os 5 .any ((OpenSpec.ofChange Rows.watchSameSpec).preRow enc Tryd.prog Tryd.f5 Rows.watchSameRow.domain false Rows.watchSameRow.laid) (((OpenSpec.ofChange Rows.watchSameSpec).at F).post enc Tryd.prog Tryd.f5 false true false false) := by
  obtain ⟨places, hx⟩ := watchSame_reads os enc
  refine returnsInHanded_of_row (C := Tryd.checked) (s := OpenSpec.ofChange Rows.watchSameSpec) (by kernel_rfl) started (by kernel_rfl) Tryd.func5
    (witness_row_at (enc := enc) (C := Tryd.checked) false (watchSame_world os) #[.int .u64 0, .slice none 0 0, .slice none 0 0] rfl (by kernel_rfl) (by kernel_rfl) (by kernel_rfl)
      (OpenSpec.preRow_of_cond 8 hx (by kernel_rfl) (fun k hk => by cases hk) (by kernel_rfl) (watchSame_laid_met os))) ?_
  intro W base args ds gs before hval0 hW hcnd hk0 hsz0 hL _ _
  have hG := laid_cells hL
  have hval : ∀ (j : Nat) t v, Tryd.f5.params[j]? = some t → args[j]? = some v → Value.okWide Tryd.prog W .any base t v := hval0
  have hW' := hW
  obtain ⟨p, q, hA0, hV, rfl, hfz, hnd⟩ := hW
  have hA : DataW.TrodAll enc Tryd.prog W 0 (fun _ => true) true Tryd.f5.params.toList args.toList ds p := hA0
  obtain ⟨rfl, rfl⟩ := trodVars_none hV
  have hsz : ∀ x ∈ DataW.weightsEach Tryd.prog Tryd.f5.params.toList ds, x ≤ maxB := by
    have h1 : (DataW.weightsEach Tryd.prog (Tryd.f5.params.toList ++ []) (ds ++ [])).all (· ≤ reachBytes) = true := hsz0
    simp only [List.append_nil] at h1
    intro x hx; have h2 := List.all_eq_true.1 h1 x hx; simp only [decide_eq_true_eq] at h2; exact h2
  rw [Tryd.params5] at hA hval hsz
  have hR := rdw_all tt_ok ctt_ok (closed_of tt_closed) (fun _ => rfl) 8 hA hsz
  have hback := fun (W2 : World) (hb : Below W.heap.size W W2) => trodAll_below (by kernel_rfl : laidOutB Tryd.prog = true) hb (by kernel_rfl) hA
  obtain ⟨v0, vs0, d0, ds0, p0, q0, hargs, rfl, rfl, h0, r0⟩ := trodAll_cons hA
  obtain ⟨v1, vs1, d1, ds1, p1, q1, rfl, rfl, rfl, h1, r1⟩ := trodAll_cons r0
  obtain ⟨v2, vs2, d2, ds2, p2, q2, rfl, rfl, rfl, h2, r2⟩ := trodAll_cons r1
  obtain ⟨rfl, rfl, rfl⟩ := trodAll_nil r2
  obtain rfl : args = #[v0, v1, v2] := by cases args; simp_all
  have R0 := hR 0 29 v0 rfl rfl
  have e0 := val_one tt_ok (t := 29) rfl (by intro h; cases h) rfl (hval 0 29 v0 rfl rfl)
  rw [e0] at R0
  have R1 := hR 1 57 v1 rfl rfl
  have e1 := val_one tt_ok (t := 57) rfl (by intro h; cases h) rfl (hval 1 57 v1 rfl rfl)
  rw [e1] at R1
  have R2 := hR 2 58 v2 rfl rfl
  have e2 := val_one tt_ok (t := 58) rfl (by intro h; cases h) rfl (hval 2 58 v2 rfl rfl)
  rw [e2] at R2
  clear hval hval0 hsz hsz0 hR hA0
  refine (watchSame_walk W hG v0 v1 v2 R0 R1 R2).mono fun e W2 ⟨he, hI⟩ => ?_
  subst he
  exact ⟨_, rfl, _, _, _, [], _, [], hW', trodAll_mk1 (shut_bool Tryd.underlying4 _), hback _ (below_of_inv hI), rfl, (below_of_inv hI).frame _, fun h => by cases h⟩

theorem watchSame_said : Rows.WatchSameSaid :=
  OpenClaim.holds_of_cond 5 Tryd.f5 rfl rfl rfl rfl rfl rfl rfl ⟨rfl, rfl, rfl, rfl, rfl⟩ rfl rfl rfl rfl rfl (by kernel_rfl) Tryd.func5 (by kernel_rfl)
    (of_decide_eq_true (by kernel_rfl)) (by unfold Func.isWrapper; first | (rw [if_pos (by decide +kernel)]; kernel_rfl) | (rw [if_neg (by decide +kernel)]; exact ⟨rfl, rfl⟩))
    (fun os started H enc _ F => by rw [OpenClaim.pre_eq_preRow]; exact watchSame_lifted os started H enc F)

theorem watchSame_plain (f : FuncId) (fn : Func) (hf : Tryd.pinned.checked.prog.funcNamed "hindcast/hindcastlaw29.WatchSame" = some f) (hfn : Tryd.pinned.checked.prog.funcs[f]? = some fn) :
    false = Tryd.pinned.checked.prog.looks [] ∧ ∀ (j : Nat) t, fn.params[j]? = some t → Tryd.pinned.checked.prog.wantsStandIn t = false := by
  obtain rfl : f = 5 := Option.some.inj ((show Tryd.prog.funcNamed "hindcast/hindcastlaw29.WatchSame" = some 5 by kernel_rfl).symm.trans hf) |>.symm
  obtain rfl : fn = Tryd.f5 := (Option.some.inj (Tryd.func5.symm.trans hfn)).symm
  refine ⟨by kernel_rfl, fun j t ht => ?_⟩
  rw [Tryd.params5] at ht
  have hm : t ∈ [29, 57, 58] := by simpa using Array.mem_of_getElem? ht
  have hall : ([29, 57, 58].all fun u => !Tryd.prog.wantsStandIn u) = true := by kernel_rfl
  exact (show Tryd.prog.wantsStandIn t = false by simpa using List.all_eq_true.1 hall t hm)

theorem watchSame_holds : Rows.WatchSameCardSaid :=
  Claim7.holds_tied_plain_at .later [] _ _ _ _ watchSame_said (fun _ h => by cases h) (by kernel_rfl) (fun _ h => by cases h) watchSame_row_tie rfl ⟨rfl, rfl⟩ (by kernel_rfl) rfl watchSame_plain (by kernel_rfl)

end Go.Proofs.YthlnellnlhkphaaDoor
