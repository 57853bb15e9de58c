/-
  THE ENGINE, second part: lemmas for walks that a small program prints: options, regions of drawn order in a listed order, slices of any place, strings, contracts in the form of what stands ahead of the rest.
-/
import Derived.Test.YtkdbpenjkcjimaaGreatDoorEng
import Derived.Laws.BytesArg
import Derived.Laws.Shifts
import Derived.Laws.Strings
import Derived.Laws.StructEq
import Derived.Lib.ConvBytes
namespace Go.Proofs.YtkdbpenjkcjimaaGreatDoor.Eng
open Go.RowKit
set_option autoImplicit true
set_option relaxedAutoImplicit true
set_option linter.unusedVariables false

/-! ### Options -/
theorem bsome {α β : Type} {m : Option α} {k : α → Option β} {r : β} (h : Option.bind m k = some r) : ∃ x, m = some x ∧ k x = some r := Option.bind_eq_some_iff.1 h
theorem ct {α : Type} {t : Bool} {a b r : Option α} (ht : t = true) (h : cond t a b = r) : a = r := by subst ht; exact h
theorem cf {α : Type} {t : Bool} {a b r : Option α} (ht : t = false) (h : cond t a b = r) : b = r := by subst ht; exact h

def orE {α β γ : Type} (f : α → γ) (g : β → γ) : α ⊕ β → γ
  | .inl x => f x
  | .inr y => g y
@[simp] theorem orE_l {α β γ : Type} (f : α → γ) (g : β → γ) (x : α) : orE f g (.inl x) = f x := rfl
@[simp] theorem orE_r {α β γ : Type} (f : α → γ) (g : β → γ) (y : β) : orE f g (.inr y) = g y := rfl

/-- What follows a result that may be nil. -/
def poE {α β : Type} (a : β) (f : α → β) : Option α → β
  | none => a
  | some x => f x
theorem poN {α β : Type} {a : β} {f : α → β} {r : β} (h : poE a f none = r) : a = r := h
theorem poS {α β : Type} {a : β} {f : α → β} {x : α} {r : β} (h : poE a f (some x) = r) : f x = r := h

/-- Arrays as lists. -/
def Arr (α : Type) (n : Nat) : Type := {l : List α // l.length = n}

/-- What a model asks of its numbers. -/
def getI {α : Type} (xs : List α) (v : Int) : Option α := if 0 ≤ v then xs[v.toNat]? else none
def setI {α : Type} (xs : List α) (v : Int) (x : α) : List α := xs.set v.toNat x
def cutI {α : Type} (xs : List α) (lo hi : Int) : Option (List α) := if 0 ≤ lo ∧ lo ≤ hi ∧ hi ≤ (xs.length : Int) then some ((xs.take hi.toNat).drop lo.toNat) else none
def cut3I {α : Type} (xs : List α) (lo hi mx : Int) : Option (List α) := if hi ≤ mx ∧ mx ≤ (xs.length : Int) then cutI xs lo hi else none
def appI {α : Type} (xs ys : List α) : Option (List α) := if xs.length + ys.length ≤ 1073741824 then some (xs ++ ys) else none
def shrI (k : IntKind) (a c : Int) : Option Int := if 0 ≤ c then some (a / 2 ^ (min c.toNat k.bits)) else none
def shlI (k : IntKind) (a c : Int) : Option Int := if 0 ≤ c then some (k.wrap (a * 2 ^ (min c.toNat k.bits))) else none
def remI (a b : Int) : Option Int := if b = 0 then none else some (a.tmod b)
def toB (xs : List Int) : List UInt8 := xs.map fun n => UInt8.ofNat n.toNat
theorem getI_spec {α : Type} {xs : List α} {v : Int} {x : α} (h : getI xs v = some x) : 0 ≤ v ∧ xs[v.toNat]? = some x := by
  unfold getI at h; split at h
  · exact ⟨by assumption, h⟩
  · cases h

/-! ### Taking a part out of what is known -/
/-- L is X and R. -/
def Sel (L X R : List Blk) : Prop := L.Perm (X ++ R)

theorem Sel.hc {p : Blk} {R : List Blk} : Sel (p :: R) [p] R := List.Perm.refl _
theorem Sel.ha {B R : List Blk} : Sel (B ++ R) B R := List.Perm.refl _
theorem Sel.sc {p : Blk} {R X R' : List Blk} (h : Sel R X R') : Sel (p :: R) X (p :: R') := by
  unfold Sel at *
  exact (h.cons p).trans (List.perm_middle.symm)
theorem Sel.sa {B R X R' : List Blk} (h : Sel R X R') : Sel (B ++ R) X (B ++ R') := by
  unfold Sel at *
  refine (List.Perm.append_left B h).trans ?_
  rw [← List.append_assoc, ← List.append_assoc]
  exact List.Perm.append_right R' List.perm_append_comm

theorem pNil {L : List Blk} : L.Perm ([] ++ L) := List.Perm.refl _
theorem pCons {L R F pre : List Blk} {p : Blk} (s : Sel L [p] R) (h : R.Perm (pre ++ F)) : L.Perm ((p :: pre) ++ F) := s.trans (h.cons p)
theorem pApp {L R F pre B : List Blk} (s : Sel L B R) (h : R.Perm (pre ++ F)) : L.Perm ((B ++ pre) ++ F) := by
  unfold Sel at s
  rw [List.append_assoc]
  exact s.trans (List.Perm.append_left B h)
theorem pSub {L X F : List Blk} (h : L.Perm (X ++ F)) : ∃ R, L.Perm (X ++ R) := ⟨F, h⟩

theorem mR {B R : List Blk} {p : Blk} (h : p ∈ R) : p ∈ B ++ R := List.mem_append_right B h
theorem Upd.right {B R R' : List Blk} {p p' : Blk} (h : Upd R p p' R') : Upd (B ++ R) p p' (B ++ R') := by
  induction B with
  | nil => exact h
  | cons q B ih => exact .there ih

/-! ### Slices, wherever they lie -/
def adOf (a : Option Addr) : Addr := a.getD ⟨0, 0, none⟩

/-- These cells stand from a on, in a world. -/
def Rda (w : World) (a : Option Addr) (cs : List Value) : Prop := ∀ j u, cs[j]? = some u → w.cell? ((adOf a).add j) = some u

/-- These cells stand from a on, in the blocks B, or they stood there from the beginning, in a block that does not turn. -/
structure Rds (w0 : World) (A : List Nat) (B : List Blk) (a : Option Addr) (cs : List Value) : Prop where
  there : cs ≠ [] → a.isSome = true ∧ ((adOf a).block ∈ ids B ∨ ((adOf a).block < w0.heap.size ∧ (adOf a).block ∉ A))
  at_ : ∀ w, Inv w0 A w B → Rda w a cs

/-- A slice of one's own, from a on: n elements, whose cells are cs, in the block B; what lies ahead of them and behind nobody knows. (No room: B is any.) -/
def Own (e size : Nat) (a : Option Addr) (n cap : Nat) (cs : List Value) (B : List Blk) : Prop :=
  cs.length = n * size ∧ ((n = 0 ∧ cap = 0) ∨
    ∃ g pr r, a = some ⟨g, pr.length, none⟩ ∧ n ≤ cap ∧ cap ≤ maxLen ∧ (cs ++ r).length = cap * size ∧ B = [⟨g, pr ++ (cs ++ r), e, (0, 0)⟩])

theorem Own.zero {e size : Nat} {a : Option Addr} {B : List Blk} : Own e size a 0 0 [] B := ⟨by simp, .inl ⟨rfl, rfl⟩⟩

section
variable {w0 : World} {A : List Nat} {B L R F pre : List Blk} {a : Option Addr} {cs : List Value}

theorem Rds.nil : Rds w0 A B a [] := ⟨fun h => absurd rfl h, fun w _ j u h => by simp at h⟩

theorem Rds.up (h : Rds w0 A B a cs) {w : World} (hI : Inv w0 A w L) (s : ∃ R, L.Perm (B ++ R)) : Rda w a cs := h.at_ w (hI.sub s)

theorem rds_none {α : Type} {enc : α → List Value} {size : Nat} {xs : List α} (h : Rds w0 A B none (xs.flatMap enc)) (he : ∀ x, (enc x).length = size) (hp : 0 < size) : xs = [] := by
  cases xs with
  | nil => rfl
  | cons x xs =>
    exfalso
    have hne : (x :: xs).flatMap enc ≠ [] := by
      intro h0
      have h1 := congrArg List.length h0
      simp only [List.flatMap_cons, List.length_append, List.length_nil, he] at h1
      omega
    have := (h.there hne).1
    cases this

theorem Rds.weak (h : Rds w0 A [] a cs) : Rds w0 A B a cs := ⟨fun h0 => ⟨(h.there h0).1, .inr (by rcases (h.there h0).2 with h1 | h1; (simp [ids] at h1); exact h1)⟩, fun w hI => h.at_ w hI.none⟩

/-- What the callee is told. -/
theorem Rds.call (h : Rds w0 A B a cs) (hp : L.Perm (pre ++ F)) (hB : ∃ R, F.Perm (B ++ R)) : ∀ w, Inv w0 A w L → Rds w (ids pre) [] a cs := by
  intro w hI
  have hIp := hI.perm hp
  have hF : Inv w0 A w F := hIp.sub ⟨pre, List.perm_append_comm⟩
  have hn := hIp.nodup
  unfold ids at hn
  rw [List.map_append, List.nodup_append] at hn
  refine ⟨fun h0 => ⟨(h.there h0).1, .inr ?_⟩, fun w' hI' j u hj => ?_⟩
  · rcases (h.there h0).2 with h1 | ⟨h1, h2⟩
    · obtain ⟨R, hR⟩ := hB
      obtain ⟨p, hp', he⟩ := List.mem_map.1 h1
      have hpF : p ∈ F := hR.mem_iff.2 (by simp [hp'])
      refine ⟨he ▸ hF.lt hpF, fun hm => ?_⟩
      exact hn.2.2 _ hm _ (List.mem_map_of_mem hpF) he.symm
    · refine ⟨Nat.lt_of_lt_of_le h1 hI.size, fun hm => ?_⟩
      obtain ⟨p, hp', he⟩ := List.mem_map.1 hm
      rcases hIp.new p (List.mem_append_left _ hp') with h3 | h3
      · exact h2 (he ▸ h3)
      · omega
  · have h1 := h.up hI (hB.imp (fun R hR => hR) |> fun ⟨R, hR⟩ => ⟨R ++ pre, (hp.trans List.perm_append_comm).trans (by rw [← List.append_assoc]; exact List.Perm.append_right pre hR)⟩) j u hj
    have h0 : cs ≠ [] := by intro h0; subst h0; simp at hj
    have hb : ((adOf a).add j).block = (adOf a).block := add_block _ _
    have hnot : (adOf a).block < w.heap.size ∧ (adOf a).block ∉ ids pre := by
      rcases (h.there h0).2 with h1 | ⟨h1, h2⟩
      · obtain ⟨R, hR⟩ := hB
        obtain ⟨p, hp', he⟩ := List.mem_map.1 h1
        have hpF : p ∈ F := hR.mem_iff.2 (by simp [hp'])
        exact ⟨he ▸ hF.lt hpF, fun hm => hn.2.2 _ hm _ (List.mem_map_of_mem hpF) he.symm⟩
      · refine ⟨Nat.lt_of_lt_of_le h1 hI.size, fun hm => ?_⟩
        obtain ⟨p, hp', he⟩ := List.mem_map.1 hm
        rcases hIp.new p (List.mem_append_left _ hp') with h3 | h3
        · exact h2 (he ▸ h3)
        · omega
    have h2 : w'.heap[((adOf a).add j).block]? = w.heap[((adOf a).add j).block]? := by
      rw [hb]; exact hI'.frame _ hnot.1 hnot.2
    rw [World.cell?_of_block h2]
    exact h1

theorem Rds.of_vec {e size n cap : Nat} (h : Own e size a n cap cs B) : Rds w0 A B a cs := by
  rcases h.2 with ⟨h1, _⟩ | ⟨g, pr, r, rfl, _, _, _, rfl⟩
  · have h0 : cs = [] := List.eq_nil_of_length_eq_zero (by rw [h.1, h1]; simp)
    subst h0
    exact Rds.nil
  · refine ⟨fun _ => ⟨rfl, .inl (by simp [ids, adOf])⟩, fun w hI j u hj => ?_⟩
    have hown := hI.own _ (List.mem_singleton.2 rfl)
    simp only [adOf, Option.getD_some, Addr.add_lit]
    rw [cell_of hown]
    simp only [List.getElem?_toArray]
    rw [List.getElem?_append_right (by omega), show pr.length + j - pr.length = j by omega, List.getElem?_append_left (List.getElem?_eq_some_iff.1 hj).1]
    exact hj

theorem Rds.of_blk {b : Nat} {c : List Value} {t : TypeId} {fz : Nat × Nat} : Rds w0 A [⟨b, c, t, fz⟩] (some ⟨b, 0, none⟩) c := by
  refine ⟨fun _ => ⟨rfl, .inl (by simp [ids, adOf])⟩, fun w hI j u hj => ?_⟩
  have hown := hI.own _ (List.mem_singleton.2 rfl)
  simp only [adOf, Option.getD_some, Addr.add_lit, Nat.zero_add]
  rw [cell_of hown]
  simpa using hj

theorem Rds.part (h : Rds w0 A B a cs) (k m : Nat) (a' : Option Addr) (ha : (cs.drop k).take m ≠ [] → a' = some ((adOf a).add k)) : Rds w0 A B a' ((cs.drop k).take m) := by
  have key : ∀ j u, ((cs.drop k).take m)[j]? = some u → cs[k + j]? = some u := fun j u hj => by
    rw [List.getElem?_take] at hj
    split at hj
    · rw [List.getElem?_drop] at hj; exact hj
    · cases hj
  refine ⟨fun h0 => ?_, fun w hI j u hj => ?_⟩
  · have hcs : cs ≠ [] := by intro h1; subst h1; simp at h0
    rw [ha h0]
    refine ⟨rfl, ?_⟩
    simp only [adOf, Option.getD_some]
    rw [add_block]
    exact (h.there hcs).2
  · have h0 : (cs.drop k).take m ≠ [] := by intro h1; rw [h1] at hj; simp at hj
    rw [ha h0]
    simp only [adOf, Option.getD_some]
    rw [addr_add_add]
    exact h.at_ w hI _ _ (key j u hj)
end

def flat {α : Type} (enc : α → List Value) (xs : List α) : List Value := xs.flatMap enc

theorem flat_append {α : Type} (enc : α → List Value) (xs ys : List α) : flat enc (xs ++ ys) = flat enc xs ++ flat enc ys := by simp [flat]
theorem flat_one {α : Type} (enc : α → List Value) (x : α) : flat enc [x] = enc x := by simp [flat]

theorem flat_length {α : Type} {enc : α → List Value} {size : Nat} (he : ∀ x, (enc x).length = size) : ∀ (xs : List α), (flat enc xs).length = xs.length * size
  | [] => by simp [flat]
  | x :: xs => by
    have := flat_length he xs
    unfold flat at *
    rw [List.flatMap_cons, List.length_append, he, this, List.length_cons, Nat.add_mul]
    omega

theorem flat_drop {α : Type} {enc : α → List Value} {size : Nat} (he : ∀ x, (enc x).length = size) : ∀ (xs : List α) (j : Nat), (flat enc xs).drop (j * size) = flat enc (xs.drop j)
  | [], j => by simp [flat]
  | x :: xs, 0 => by simp
  | x :: xs, j + 1 => by
    have := flat_drop he xs j
    unfold flat at *
    rw [List.flatMap_cons, Nat.add_mul, Nat.one_mul, Nat.add_comm]
    have hd : ∀ (a b : Nat) (l : List Value), l.drop (a + b) = (l.drop a).drop b := fun a b l => by rw [List.drop_drop]
    rw [hd, show List.drop size (enc x ++ List.flatMap enc xs) = List.flatMap enc xs from by rw [← he x]; simp]
    simpa using this

theorem flat_take {α : Type} {enc : α → List Value} {size : Nat} (he : ∀ x, (enc x).length = size) (xs : List α) (j : Nat) : (flat enc xs).take (j * size) = flat enc (xs.take j) := by
  have h1 : flat enc xs = flat enc (xs.take j) ++ flat enc (xs.drop j) := by rw [← flat_append, List.take_append_drop]
  rcases Nat.lt_or_ge xs.length j with h | h
  · rw [List.take_of_length_le (by omega : xs.length ≤ j), List.take_of_length_le]
    rw [flat_length he]
    exact Nat.mul_le_mul_right _ (by omega)
  · rw [h1]
    have h2 : (flat enc (xs.take j)).length = j * size := by rw [flat_length he]; simp [Nat.min_eq_left h]
    rw [← h2]
    simp

theorem flat_elem {α : Type} {enc : α → List Value} {size : Nat} (he : ∀ x, (enc x).length = size) {xs : List α} {j : Nat} {x : α} (hx : xs[j]? = some x) : ((flat enc xs).drop (j * size)).take size = enc x := by
  rw [flat_drop he]
  have : xs.drop j = x :: xs.drop (j + 1) := by
    have hj := (List.getElem?_eq_some_iff.1 hx)
    obtain ⟨hlt, rfl⟩ := hj
    exact List.drop_eq_getElem_cons hlt
  rw [this]
  unfold flat
  rw [List.flatMap_cons]
  rw [← he x]
  simp

theorem flat_get {α : Type} {enc : α → List Value} {size : Nat} (he : ∀ x, (enc x).length = size) {xs : List α} {j o : Nat} {x : α} {v : Value} (hx : xs[j]? = some x) (hv : (enc x)[o]? = some v) : (flat enc xs)[j * size + o]? = some v := by
  rw [← flat_elem he hx] at hv
  rw [List.getElem?_take] at hv
  split at hv
  · rw [List.getElem?_drop] at hv; exact hv
  · cases hv

theorem flat_set {α : Type} {enc : α → List Value} {size : Nat} (he : ∀ x, (enc x).length = size) {xs : List α} {j : Nat} {y : α} (hj : j < xs.length) : (flat enc xs).take (j * size) ++ enc y ++ (flat enc xs).drop (j * size + size) = flat enc (xs.set j y) := by
  rw [flat_take he, show j * size + size = (j + 1) * size from by rw [Nat.add_mul, Nat.one_mul], flat_drop he]
  rw [List.set_eq_take_append_cons_drop, if_pos hj, flat_append]
  unfold flat
  rw [List.flatMap_cons]
  simp

section
variable {P : Program} {T : List (Nat × TI)} {E : List (Nat × Value)} {n : Nat} {w0 : World} {A : List Nat} {L B : List Blk}

/-- The address of an element. -/
theorem val_ix {α : Type} {enc : α → List Value} (hT : TabOk P T) {t e : TypeId} {s1 b1 size by' nx : Nat} {z1 z : Option (List Value)} {td : TD} {x i : Operand} {a : Option Addr} {cap : Nat} {k : IntKind} {v : Int} {ty : TypeId} {xs : List α} {y : α}
    (hlt : lookT T t = some ⟨.slice e, s1, b1, z1⟩) (hle : lookT T e = some ⟨td, size, by', z⟩)
    (hx : evO E x = some (.slice a nx cap)) (hi : evO E i = some (.int k v)) (hn : nx = xs.length) (hr : Rds w0 A B a (flat enc xs)) (he : ∀ x, (enc x).length = size) (hp : Nat.blt 0 size = true) (hg : getI xs v = some y) :
    Val P w0 A n E L (.indexAddr t x i) ty (.pointer (some ((adOf a).add (v.toNat * size + 0)))) := by
  subst hn
  intro a' w hF hI d pos aft g
  obtain ⟨xt, hxt, hft, hpu⟩ := (hT.at hlt).und w
  simp only [TD.fits] at hft
  subst hft
  obtain ⟨h0, hy⟩ := getI_spec hg
  have hlt' := (List.getElem?_eq_some_iff.1 hy).1
  have hpos : 0 < size := by simpa using hp
  have hne : flat enc xs ≠ [] := by
    intro h1
    have := flat_length he xs
    rw [h1] at this
    have h2 : 0 < xs.length * size := Nat.mul_pos (by omega) hpos
    simp only [List.length_nil] at this
    omega
  obtain ⟨ad, rfl⟩ := Option.isSome_iff_exists.1 (hr.there hne).1
  refine run_v ?_
  rw [hF.eval hx, hF.eval hi]
  unfold Instr.indexAt
  simp only [asIntOf, Sem.run_bind, Sem.run_pure, Result.andThen, hxt]
  rw [if_pos ⟨h0, by omega⟩]
  simp only [Sem.run_bind, (hT.at hle).size w, Result.andThen, Sem.run_pure]
  rfl

theorem run_loadVar_add (hT : TabOk P T) {t : TypeId} {w : World} {ad : Addr} {o : Nat} {c : List Value} {v : Value}
    (hc : ∀ i v, c[i]? = some v → w.cell? (ad.add i) = some v) (h : partV T t c o = some v) : (loadVar t (ad.add o)).run P w = .ok v w := by
  unfold partV at h
  split at h
  · rename_i d size _ _ hl
    have ht := hT.at hl
    unfold loadVar
    rw [runM (ht.isAgg w)]
    cases hd : d.agg
    · rw [hd] at h
      simp only [cond_eq_ite, Bool.false_eq_true, if_false, nthO_eq] at h
      simp only [Bool.false_eq_true, if_false]
      unfold load
      simp only [Sem.run, hc o v h]
    · rw [hd] at h
      simp only [cond_eq_ite, if_true] at h
      split at h
      · rename_i l hl'
        obtain ⟨h1, h2⟩ := takeO_eq _ _ _ hl'
        simp only [Option.some.injEq] at h
        subst h
        simp only [if_true]
        rw [runM (ht.size w)]
        have hlen : l.length = size := by rw [h1]; simp; omega
        have := run_loadCells_list (P := P) w (ad.add o) l (fun j v hj => by
          rw [addr_add_add]
          refine hc _ _ ?_
          rw [h1, dropO_eq] at hj
          have hjl : j < size := by
            have := List.getElem?_eq_some_iff.1 hj
            obtain ⟨hh, _⟩ := this
            simp at hh; omega
          rw [List.getElem?_take_of_lt hjl, List.getElem?_drop] at hj
          exact hj)
        rw [hlen] at this
        rw [runM this]; rfl
      · simp at h
  · simp at h

/-- What stands in a part of an element. -/
theorem val_le {α : Type} {enc : α → List Value} (hT : TabOk P T) {t : TypeId} {x : Operand} {a : Option Addr} {v : Int} {size o : Nat} {ty : TypeId} {u : Value} {xs : List α} {y : α}
    (hx : evO E x = some (.pointer (some ((adOf a).add (v.toNat * size + o))))) (hr : Rds w0 A B a (flat enc xs)) (hB : ∃ R, L.Perm (B ++ R)) (he : ∀ x, (enc x).length = size) (hg : getI xs v = some y) (hp : partV T t (enc y) o = some u) :
    Val P w0 A n E L (.load t x) ty u := by
  intro a' w hF hI d pos aft g
  obtain ⟨h0, hy⟩ := getI_spec hg
  refine run_v ?_
  rw [hF.eval hx]
  unfold Instr.loadAt
  simp only [Instr.sureAddr, Sem.run_bind, Sem.run_pure, Result.andThen]
  rw [← addr_add_add]
  refine run_loadVar_add hT (c := enc y) (fun i u hi => ?_) hp
  rw [addr_add_add]
  exact hr.up hI hB _ _ (flat_get he hy hi)

/-- The address of an element of an array in a block; its number is known to be j. -/
theorem val_ia (hT : TabOk P T) {t e : TypeId} {s1 b1 size by' m : Nat} {z1 z : Option (List Value)} {td : TD} {x i : Operand} {b o o' j : Nat} {k : IntKind} {v : Int} {ty : TypeId}
    (hlt : lookT T t = some ⟨.arr m e, s1, b1, z1⟩) (hle : lookT T e = some ⟨td, size, by', z⟩) (hx : evO E x = some (.pointer (some ⟨b, o, none⟩))) (hi : evO E i = some (.int k v)) (hv : v = (j : Int)) (hj : Nat.blt j m = true) (hq : o + j * size = o') :
    Val P w0 A n E L (.indexAddr t x i) ty (.pointer (some ⟨b, o', none⟩)) := by
  subst hq
  intro a w hF hI d pos aft g
  obtain ⟨xt, hxt, hft, hpu⟩ := (hT.at hlt).und w
  simp only [TD.fits] at hft
  subst hft
  have hj' : j < m := by simpa using hj
  refine run_v ?_
  rw [hF.eval hx, hF.eval hi, hv]
  unfold Instr.indexAt
  simp only [asIntOf, Instr.sureAddr, Sem.run_bind, Sem.run_pure, Result.andThen, hxt]
  rw [if_pos ⟨Int.natCast_nonneg j, by omega⟩]
  simp only [Sem.run_bind, (hT.at hle).size w, Result.andThen, Sem.run_pure, Int.toNat_natCast]
  simp [Addr.add_lit]

/-- The address of an element of an array that lies within an element. -/
theorem val_fia (hT : TabOk P T) {t e : TypeId} {s1 b1 size by' m : Nat} {z1 z : Option (List Value)} {td : TD} {x i : Operand} {ad : Addr} {q q' j : Nat} {k : IntKind} {v : Int} {ty : TypeId}
    (hlt : lookT T t = some ⟨.arr m e, s1, b1, z1⟩) (hle : lookT T e = some ⟨td, size, by', z⟩) (hx : evO E x = some (.pointer (some (ad.add q)))) (hi : evO E i = some (.int k v)) (hv : v = (j : Int)) (hj : Nat.blt j m = true) (hq : q + j * size = q') :
    Val P w0 A n E L (.indexAddr t x i) ty (.pointer (some (ad.add q'))) := by
  subst hq
  intro a w hF hI d pos aft g
  obtain ⟨xt, hxt, hft, hpu⟩ := (hT.at hlt).und w
  simp only [TD.fits] at hft
  subst hft
  have hj' : j < m := by simpa using hj
  refine run_v ?_
  rw [hF.eval hx, hF.eval hi, hv]
  unfold Instr.indexAt
  simp only [asIntOf, Instr.sureAddr, Sem.run_bind, Sem.run_pure, Result.andThen, hxt]
  rw [if_pos ⟨Int.natCast_nonneg j, by omega⟩]
  simp only [Sem.run_bind, (hT.at hle).size w, Result.andThen, Sem.run_pure, Int.toNat_natCast]
  simp [addr_add_add]

theorem val_iv (hT : TabOk P T) {t e : TypeId} {s1 b1 size by' m : Nat} {z1 z : Option (List Value)} {td : TD} {x i : Operand} {cs : Array Value} {j : Nat} {k : IntKind} {v : Int} {ty : TypeId} {u : Value}
    (hlt : lookT T t = some ⟨.arr m e, s1, b1, z1⟩) (hle : lookT T e = some ⟨td, size, by', z⟩) (hx : evO E x = some (.agg cs)) (hi : evO E i = some (.int k v)) (hv : v = (j : Int)) (hj : Nat.blt j m = true) (hp : partV T e cs.toList (j * size) = some u) :
    Val P w0 A n E L (.index t x i) ty u := by
  intro a w hF hI d pos aft g
  obtain ⟨xt, hxt, hft, hpu⟩ := (hT.at hlt).und w
  simp only [TD.fits] at hft
  subst hft
  have hj' : j < m := by simpa using hj
  refine run_v ?_
  rw [hF.eval hx, hF.eval hi, hv]
  unfold Instr.index
  simp only [asIntOf, Sem.run_bind, Sem.run_pure, Result.andThen, hxt]
  rw [if_pos ⟨Int.natCast_nonneg j, by omega⟩]
  simp only [Sem.run_bind, (hT.at hle).size w, Result.andThen, Int.toNat_natCast]
  exact run_partV hT hp

/-! strings -/
/-- The slice of a whole array. -/
theorem val_sla (hT : TabOk P T) {t e : TypeId} {s1 b1 size by' m : Nat} {z1 z : Option (List Value)} {td : TD} {x : Operand} {b o : Nat} {ty : TypeId}
    (hlt : lookT T t = some ⟨.arr m e, s1, b1, z1⟩) (hle : lookT T e = some ⟨td, size, by', z⟩) (hx : evO E x = some (.pointer (some ⟨b, o, none⟩))) (hm : Nat.blt 0 m = true) :
    Val P w0 A n E L (.slice t x none none none) ty (.slice (some ⟨b, o, none⟩) m m) := by
  intro a w hF hI d pos aft g
  obtain ⟨xt, hxt, hft, hpu⟩ := (hT.at hlt).und w
  simp only [TD.fits] at hft
  subst hft
  have hm' : m ≠ 0 := by have : 0 < m := by simpa using hm
                         omega
  refine run_v ?_
  rw [hF.eval hx]
  unfold Instr.sliceAt
  simp only [Instr.sureAddr, Sem.run_bind, Sem.run_pure, Result.andThen, hxt, Option.map_none, Instr.sliceBounds]
  simp [(hT.at hle).size w, hm', Addr.add_lit]

theorem toList_mk (l : List UInt8) : (ByteArray.mk l.toArray).toList = l := by
  rw [Go.ByteArray.toList_eq]

theorem val_seq (hT : TabOk P T) {t yt : TypeId} {x y : Operand} {ty : TypeId} {l m : List UInt8} (hx : evO E x = some (.string ⟨l.toArray⟩)) (hy : evO E y = some (.string ⟨m.toArray⟩)) :
    Val P w0 A n E L (.binOp .eql t x y yt) ty (.bool (l == m)) := by
  intro a w hF hI d pos aft g
  refine run_v ?_
  rw [hF.eval hx, hF.eval hy, eqGuard_plain (by rfl)]
  show (Op.stringOp .eql ⟨l.toArray⟩ ⟨m.toArray⟩).run P w = _
  unfold Op.stringOp
  simp only [Sem.run_pure, toList_mk]

theorem val_shr {t yt : TypeId} {x y : Operand} {ty : TypeId} {k k' : IntKind} {a c r : Int} (hx : evO E x = some (.int k a)) (hy : evO E y = some (.int k' c)) (hg : shrI k a c = some r) :
    Val P w0 A n E L (.binOp .shr t x y yt) ty (.int k r) := by
  intro a' w hF hI d pos aft g
  unfold shrI at hg
  split at hg
  · rename_i hc
    simp only [Option.some.injEq] at hg
    subst hg
    refine run_v ?_
    rw [hF.eval hx, hF.eval hy, eqGuard_plain (by rfl)]
    show (Op.shift .shr k a k' c).run P w = _
    rw [shift_shr_any _ _ _ _ hc]
    rfl
  · cases hg

theorem val_shl {t yt : TypeId} {x y : Operand} {ty : TypeId} {k k' : IntKind} {a c r : Int} (hx : evO E x = some (.int k a)) (hy : evO E y = some (.int k' c)) (hg : shlI k a c = some r) :
    Val P w0 A n E L (.binOp .shl t x y yt) ty (.int k r) := by
  intro a' w hF hI d pos aft g
  unfold shlI at hg
  split at hg
  · rename_i hc
    simp only [Option.some.injEq] at hg
    subst hg
    refine run_v ?_
    rw [hF.eval hx, hF.eval hy, eqGuard_plain (by rfl)]
    show (Op.shift .shl k a k' c).run P w = _
    rw [shift_shl_any _ _ _ _ hc]
    rfl
  · cases hg

theorem val_rem {t yt : TypeId} {x y : Operand} {ty : TypeId} {k : IntKind} {a c r : Int} (hx : evO E x = some (.int k a)) (hy : evO E y = some (.int k c)) (hg : remI a c = some r) :
    Val P w0 A n E L (.binOp .rem t x y yt) ty (.int k r) := by
  intro a' w hF hI d pos aft g
  unfold remI at hg
  split at hg
  · cases hg
  · rename_i hc
    simp only [Option.some.injEq] at hg
    subst hg
    refine run_v ?_
    rw [hF.eval hx, hF.eval hy, eqGuard_plain (by rfl)]
    simp [binOp, Op.intDiv, hc]

def e1 (k : IntKind) (x : Int) : List Value := [.int k x]
theorem e1_len (k : IntKind) (x : Int) : (e1 k x).length = 1 := rfl
/-- A part of a slice. -/
theorem val_cut {α : Type} {enc : α → List Value} (hT : TabOk P T) {t e : TypeId} {s1 b1 size by' : Nat} {z1 z : Option (List Value)} {td : TD} {x : Operand} {lo hi mx : Option Operand} {a : Option Addr} {cap nx : Nat} {i j m : Int} {ty : TypeId} {xs ys : List α}
    (hlt : lookT T t = some ⟨.slice e, s1, b1, z1⟩) (hle : lookT T e = some ⟨td, size, by', z⟩)
    (hx : evO E x = some (.slice a nx cap)) (hn : nx = xs.length) (hth : flat enc xs ≠ [] → a.isSome = true) (he : ∀ x, (enc x).length = size) (hcap : nx ≤ cap)
    (hl : (lo = none ∧ i = 0) ∨ ∃ y k, lo = some y ∧ evO E y = some (.int k i)) (hh : (hi = none ∧ j = nx) ∨ ∃ y k, hi = some y ∧ evO E y = some (.int k j))
    (hm : (mx = none ∧ m = cap) ∨ ∃ y k, mx = some y ∧ evO E y = some (.int k m)) (hhm : hi = none → mx = none) (hjm : j ≤ m ∧ m ≤ cap)
    (hg : cutI xs i j = some ys) :
    ∃ a' n' cap', n' = ys.length ∧ n' ≤ cap' ∧ Val P w0 A n E L (.slice t x lo hi mx) ty (.slice a' n' cap') ∧ (∀ w0 A B, Rds w0 A B a (flat enc xs) → Rds w0 A B a' (flat enc ys)) ∧
      (∀ B, mx = none → Own e size a nx cap (flat enc xs) B → Own e size a' n' cap' (flat enc ys) B) ∧ (mx ≠ none → (m = i → cap' = 0 ∧ n' = 0) ∧ (m = j → cap' = n')) := by
  subst hn
  unfold cutI at hg
  split at hg
  · rename_i hc
    obtain ⟨h0, h1, h2⟩ := hc
    simp only [Option.some.injEq] at hg
    subst hg
    obtain ⟨i', rfl⟩ := Int.eq_ofNat_of_zero_le h0
    obtain ⟨j', rfl⟩ := Int.eq_ofNat_of_zero_le (Int.le_trans h0 h1)
    obtain ⟨m', rfl⟩ := Int.eq_ofNat_of_zero_le (Int.le_trans (Int.le_trans h0 h1) hjm.1)
    have b1 : i' ≤ j' := by omega
    have b2 : j' ≤ m' := by omega
    have b3 : m' ≤ cap := by omega
    have hlen : ((xs.take (j' : Int).toNat).drop (i' : Int).toNat).length = j' - i' := by simp; omega
    refine ⟨if m' = i' then a else a.map (·.add (i' * size)), _, m' - i', rfl, by rw [hlen]; omega, ?_, ?_, ?_, fun _ => ⟨fun h => ⟨by omega, by rw [hlen]; omega⟩, fun h => by rw [hlen]; omega⟩⟩
    · intro ac w hF hI d pos aft g
      obtain ⟨xt, hxt, hft, hpu⟩ := (hT.at hlt).und w
      simp only [TD.fits] at hft
      subst hft
      refine run_v ?_
      rw [hF.eval hx]
      have e1 : (Instr.sliceAt t (.slice a xs.length cap) (lo.map ac.eval) (hi.map ac.eval) (mx.map ac.eval)).run P w = (Instr.slice t (.slice a xs.length cap) (lo.map ac.eval) (hi.map ac.eval) (mx.map ac.eval)).run P w := by
        unfold Instr.sliceAt
        rw [Sem.run_bind, hxt]
        rfl
      rw [e1]
      unfold Instr.slice
      rw [runM hxt]
      have e2 : (Instr.sliceBounds true xs.length cap (lo.map ac.eval) (hi.map ac.eval) (mx.map ac.eval)).run P w = .ok (i', j', m') w := by
        unfold Instr.sliceBounds
        rcases hm with ⟨rfl, hm0⟩ | ⟨y3, k3, rfl, hy3⟩ <;> rcases hh with ⟨rfl, hh0⟩ | ⟨y2, k2, rfl, hy2⟩ <;> rcases hl with ⟨rfl, hl0⟩ | ⟨y1, k1, rfl, hy1⟩ <;>
          first
          | (exfalso; simp at hhm; done)
          | (have q1 : cap = m' := by omega
             have q2 : xs.length = j' := by omega
             have q3 : i' = 0 := by omega
             subst q3
             simp [q1, q2]
             done)
          | (have q1 : cap = m' := by omega
             have q2 : xs.length = j' := by omega
             simp [q1, q2, hF.eval hy1, run_bound b1]
             done)
          | (have q1 : cap = m' := by omega
             have q3 : i' = 0 := by omega
             subst q3
             simp [q1, hF.eval hy2, run_bound b2]
             done)
          | (have q1 : cap = m' := by omega
             simp [q1, hF.eval hy1, hF.eval hy2, run_bound b1, run_bound b2]
             done)
          | (have q3 : i' = 0 := by omega
             subst q3
             simp [hF.eval hy2, hF.eval hy3, run_bound b2, run_bound b3]
             done)
          | (simp [hF.eval hy1, hF.eval hy2, hF.eval hy3, run_bound b1, run_bound b2, run_bound b3]
             done)
      simp only [Sem.run_bind, e2, Result.andThen, (hT.at hle).size w, Sem.run_pure, hlen]
    · have hpart : flat enc ((xs.take (j' : Int).toNat).drop (i' : Int).toNat) = ((flat enc xs).drop (i' * size)).take ((j' - i') * size) := by
        simp only [Int.toNat_natCast]
        rw [← flat_drop he, ← flat_take he, List.drop_take, Nat.sub_mul]
      intro w0 A B hr
      rw [hpart]
      refine hr.part _ _ _ (fun hne => ?_)
      by_cases hmi : m' = i'
      · exfalso
        apply hne
        have : j' - i' = 0 := by omega
        rw [this]; simp
      · have hcs : flat enc xs ≠ [] := by intro h1; rw [h1] at hne; simp at hne
        obtain ⟨ad, rfl⟩ := Option.isSome_iff_exists.1 (hr.there hcs).1
        simp [hmi, adOf]
    · intro B hmx hO
      have hmc : m' = cap := by
        rcases hm with ⟨_, h⟩ | ⟨y, k, h, _⟩
        · omega
        · rw [hmx] at h; cases h
      subst hmc
      have hfl : (flat enc ((xs.take (j' : Int).toNat).drop (i' : Int).toNat)).length = (j' - i') * size := by rw [flat_length he, hlen]
      refine ⟨by rw [hfl, hlen], ?_⟩
      rw [hlen]
      by_cases hmi : m' = i'
      · exact .inl ⟨by omega, by omega⟩
      · rcases hO.2 with ⟨h1, h2⟩ | ⟨g, pr, r, rfl, h1, h2, h3, rfl⟩
        · omega
        · refine .inr ⟨g, pr ++ (flat enc xs).take (i' * size), (flat enc xs).drop (j' * size) ++ r, ?_, by omega, by omega, ?_, ?_⟩
          · simp only [hmi, if_false, Option.map_some, Addr.add_lit, List.length_append, List.length_take]
            rw [flat_length he]
            have : min (i' * size) (xs.length * size) = i' * size := Nat.min_eq_left (Nat.mul_le_mul_right _ (by omega))
            rw [this]
          · rw [List.length_append, hfl, List.length_append, List.length_drop, flat_length he]
            rw [List.length_append, flat_length he] at h3
            have e1 : j' * size ≤ xs.length * size := Nat.mul_le_mul_right _ (by omega)
            have e2 : i' * size ≤ j' * size := Nat.mul_le_mul_right _ (by omega)
            rw [Nat.sub_mul, Nat.sub_mul]
            have e3 : i' * size ≤ m' * size := Nat.mul_le_mul_right _ (by omega)
            omega
          · have hpart : flat enc ((xs.take (j' : Int).toNat).drop (i' : Int).toNat) = ((flat enc xs).take (j' * size)).drop (i' * size) := by
              simp only [Int.toNat_natCast]
              rw [← flat_drop he, ← flat_take he]
            rw [hpart]
            congr 1
            congr 1
            simp only [List.append_assoc]
            congr 1
            have q1 : (flat enc xs).take (i' * size) = ((flat enc xs).take (j' * size)).take (i' * size) := by
              rw [List.take_take, Nat.min_eq_left (Nat.mul_le_mul_right _ (by omega))]
            rw [q1, ← List.append_assoc, List.take_append_drop, ← List.append_assoc, List.take_append_drop]
  · cases hg

end

section
variable {P : Program} {T : List (Nat × TI)} {E E' : List (Nat × Value)} {n : Nat} {w0 : World} {A : List Nat} {L L' B R : List Blk} {Q : Exit → Act → World → Prop}
variable {ops : Array Oper} {rest : List Oper}

/-! ### Equality of structs and arrays -/
mutual
def eqC (T : List (Nat × TI)) : Nat → TypeId → List Value → List Value → Option Bool
  | 0, _, _, _ => none
  | f + 1, t, xs, ys => match lookT T t with
    | some ⟨.bool, _, _, _⟩ => (match xs, ys with | [.bool a], [.bool b] => some (a == b) | _, _ => none)
    | some ⟨.int _, _, _, _⟩ => (match xs, ys with | [.int k a], [.int k' b] => if k = k' then some (a == b) else none | _, _ => none)
    | some ⟨.struct fs, _, _, _⟩ => eqFs T f fs xs ys
    | some ⟨.arr n e, _, _, _⟩ => (match lookT T e with | some ⟨_, size, _, _⟩ => eqAr T f n e size xs ys | none => none)
    | _ => none
def eqFs (T : List (Nat × TI)) : Nat → List (TypeId × Nat) → List Value → List Value → Option Bool
  | 0, _, _, _ => none
  | f + 1, fs, xs, ys => match fs with
    | [] => some true
    | (ft, off) :: r => match lookT T ft with
      | none => none
      | some ⟨_, size, _, _⟩ => match takeO size (dropO off xs), takeO size (dropO off ys) with
        | some a, some b => (match eqC T f ft a b with
          | none => none
          | some p => match r with
            | [] => some p
            | _ :: _ => match eqFs T f r xs ys with
              | none => none
              | some q => some (p && q))
        | _, _ => none
def eqAr (T : List (Nat × TI)) : Nat → Nat → TypeId → Nat → List Value → List Value → Option Bool
  | 0, _, _, _, _, _ => none
  | f + 1, n, e, size, xs, ys => match n with
    | 0 => some true
    | n + 1 => match takeO size xs, takeO size ys with
      | some a, some b => (match eqC T f e a b with
        | none => none
        | some p => match n with
          | 0 => some p
          | _ + 1 => match eqAr T f n e size (dropO size xs) (dropO size ys) with
            | none => none
            | some q => some (p && q))
      | _, _ => none
end

/-- No field is blank, and no struct is one that the model stands in for. -/
def eqOkB (P : Program) : List (Nat × TI) → Bool
  | [] => true
  | x :: r => (match x.2.d with | .struct _ => !(P.stoodInHeld x.1) && (P.fieldsOf x.1).toList.all (fun f => f.name != "_") | _ => true) && eqOkB P r

theorem eqOkB_mem {P : Program} : ∀ {T : List (Nat × TI)}, eqOkB P T = true → ∀ x ∈ T, ∀ fs, x.2.d = .struct fs → P.stoodInHeld x.1 = false ∧ ∀ f ∈ (P.fieldsOf x.1).toList, f.name ≠ "_"
  | [], _, x, hx, _, _ => by simp at hx
  | y :: r, h, x, hx, fs, hd => by
    simp only [eqOkB, Bool.and_eq_true] at h
    rcases List.mem_cons.1 hx with rfl | hx
    · have h1 := h.1
      rw [hd] at h1
      simp only [Bool.and_eq_true, Bool.not_eq_true', List.all_eq_true, bne_iff_ne, ne_eq] at h1
      exact h1
    · exact eqOkB_mem h.2 x hx fs hd

/-- A part of a value, as a value. -/
def partIs (T : List (Nat × TI)) (t : TypeId) (cs : List Value) (v : Value) : Prop := ∃ i, lookT T t = some i ∧ ((i.d.agg = true ∧ v = .agg cs.toArray) ∨ (i.d.agg = false ∧ cs = [v]))

theorem run_part_of {P : Program} {T : List (Nat × TI)} (hT : TabOk P T) {ft : TypeId} {td : TD} {size by' : Nat} {z : Option (List Value)} {xs a : List Value} {off : Nat} (hl : lookT T ft = some ⟨td, size, by', z⟩) (hs : td.agg = false → size = 1) (h : takeO size (dropO off xs) = some a) (w : World) :
    ∃ v, (part ft xs.toArray off).run P w = .ok v w ∧ partIs T ft a v := by
  obtain ⟨h1, h2⟩ := takeO_eq _ _ _ h
  rw [dropO_eq] at h1 h2
  cases hd : td.agg
  · have h3 := hs hd
    subst h3
    have hlt : off < xs.length := by simp at h2; omega
    have ha : a = [xs[off]] := by rw [h1]; simp [List.take_one, List.head?_drop, hlt]
    refine ⟨xs[off], run_partV hT ?_, _, hl, .inr ⟨hd, ha⟩⟩
    unfold partV
    rw [hl]
    simp only [hd, cond_false, nthO_eq]
    simp [hlt]
  · refine ⟨.agg a.toArray, run_partV hT ?_, _, hl, .inl ⟨hd, rfl⟩⟩
    unfold partV
    rw [hl]
    simp only [hd, cond_true]
    rw [h]

def oneB : List (Nat × TI) → Bool
  | [] => true
  | x :: r => (x.2.d.agg || Nat.beq x.2.size 1) && oneB r
theorem oneB_mem : ∀ {T : List (Nat × TI)}, oneB T = true → ∀ x ∈ T, x.2.d.agg = false → x.2.size = 1
  | [], _, x, hx, _ => by simp at hx
  | y :: r, h, x, hx, hd => by
    simp only [oneB, Bool.and_eq_true, Bool.or_eq_true, Nat.beq_eq] at h
    rcases List.mem_cons.1 hx with rfl | hx
    · rcases h.1 with h1 | h1
      · rw [hd] at h1; cases h1
      · simpa using h1
    · exact oneB_mem h.2 x hx hd

theorem run_forIn_all {P : Program} {f : Nat → Option Bool × Unit → Sem (ForInStep (Option Bool × Unit))} {g : Nat → Bool} {w : World} : ∀ (l : List Nat),
    (∀ i ∈ l, ∀ r, (f i r).run P w = .ok (if g i then ForInStep.yield (none, ()) else ForInStep.done (some false, ())) w) →
    (forIn l (none, ()) f).run P w = .ok (if l.all g then (none, ()) else (some false, ())) w
  | [], _ => by simp [Sem.run_pure]
  | i :: l, h => by
    rw [List.forIn_cons, Sem.run_bind, h i (List.mem_cons_self ..) _]
    simp only [Result.andThen_ok]
    cases hg : g i
    · simp [Sem.run_pure, hg]
    · simp only [if_true, List.all_cons, hg, Bool.true_and]
      exact run_forIn_all l (fun j hj => h j (List.mem_cons_of_mem _ hj))

theorem run_equalIn_arr {P : Program} {t e : TypeId} {n size : Nat} {xs ys : Array Value} {d : Nat} {w : World} {g : Nat → Bool} (ht : P.underlying t = some (.array n e)) (hs : (sizeOf e).run P w = .ok size w)
    (h : ∀ i, i < n → ∃ u v, (part e xs (i * size)).run P w = .ok u w ∧ (part e ys (i * size)).run P w = .ok v w ∧ (Op.equalIn d e u v).run P w = .ok (g i) w) :
    (Op.equalIn (d + 1) t (.agg xs) (.agg ys)).run P w = .ok ((List.range n).all g) w := by
  simp only [Op.equalIn, Sem.run_bind, run_underlying ht, Result.andThen_ok, hs]
  rw [Std.Legacy.Range.forIn_eq_forIn_range']
  have hr : List.range' (Std.Legacy.Range.start [:n]) (Std.Legacy.Range.size [:n]) (Std.Legacy.Range.step [:n]) = List.range n := by
    simp [Std.Legacy.Range.size, List.range_eq_range']
  rw [hr, run_forIn_all (g := g)]
  · simp only [Result.andThen_ok]
    cases (List.range n).all g <;> simp [Sem.run_pure]
  · intro i hi r
    obtain ⟨u, v, h1, h2, h3⟩ := h i (List.mem_range.1 hi)
    simp only [Sem.run_bind, h1, h2, h3, Result.andThen_ok]
    cases g i <;> simp [Sem.run_pure]

theorem run_eqFields {P : Program} {d : Nat} {xs ys : Array Value} {w : World} : ∀ (l : List Field) (bs : List Bool), l.length = bs.length → (∀ f ∈ l, f.name ≠ "_") →
    (∀ (i : Nat) (f : Field) (b : Bool), l[i]? = some f → bs[i]? = some b → ∃ u v, (part f.type xs f.offset).run P w = .ok u w ∧ (part f.type ys f.offset).run P w = .ok v w ∧ (Op.equalIn d f.type u v).run P w = .ok b w) →
    (Op.eqFields d xs ys l).run P w = .ok (bs.all id) w
  | [], [], _, _, _ => by simp [Op.eqFields]
  | [], _ :: _, h, _, _ => by simp at h
  | _ :: _, [], h, _, _ => by simp at h
  | f :: l, b :: bs, hl, hn, h => by
    obtain ⟨u, v, h1, h2, h3⟩ := h 0 f b rfl rfl
    have ih := run_eqFields l bs (by simpa using hl) (fun f hf => hn f (List.mem_cons_of_mem _ hf)) (fun i f b h1 h2 => h (i + 1) f b (by simpa using h1) (by simpa using h2))
    unfold Op.eqFields
    rw [if_pos (hn f (List.mem_cons_self ..))]
    simp only [Sem.run_bind, h1, h2, h3, Result.andThen_ok]
    cases b
    · simp [Sem.run_pure]
    · simp only [Bool.not_true, Bool.false_eq_true, if_false, List.all_cons, id, Bool.true_and]
      exact ih

theorem eqFs_spec {T : List (Nat × TI)} {xs ys : List Value} : ∀ (f : Nat) (fs : List (TypeId × Nat)) (b : Bool), eqFs T f fs xs ys = some b →
    ∃ bs : List Bool, bs.length = fs.length ∧ bs.all id = b ∧ ∀ (i : Nat) (ft : TypeId) (off : Nat) (c : Bool), fs[i]? = some (ft, off) → bs[i]? = some c → ∃ td size by' z a a' f', f' < f ∧ lookT T ft = some ⟨td, size, by', z⟩ ∧ takeO size (dropO off xs) = some a ∧ takeO size (dropO off ys) = some a' ∧ eqC T f' ft a a' = some c
  | 0, _, _, h => by simp [eqFs] at h
  | f + 1, [], b, h => by
    simp only [eqFs, Option.some.injEq] at h
    exact ⟨[], rfl, by simp [h], fun i ft off c h => by simp at h⟩
  | f + 1, (ft, off) :: r, b, h => by
    simp only [eqFs] at h
    split at h
    · cases h
    · rename_i td size by' z hl
      split at h
      · rename_i a a' ha ha'
        split at h
        · cases h
        · rename_i p hp
          have key : ∀ (bs : List Bool) , (∀ (i : Nat) (ft' : TypeId) (off' : Nat) (c : Bool), r[i]? = some (ft', off') → bs[i]? = some c → ∃ td size by' z a a' f', f' < f + 1 ∧ lookT T ft' = some ⟨td, size, by', z⟩ ∧ takeO size (dropO off' xs) = some a ∧ takeO size (dropO off' ys) = some a' ∧ eqC T f' ft' a a' = some c) →
              ∀ (i : Nat) (ft' : TypeId) (off' : Nat) (c : Bool), ((ft, off) :: r)[i]? = some (ft', off') → (p :: bs)[i]? = some c → ∃ td size by' z a a' f', f' < f + 1 ∧ lookT T ft' = some ⟨td, size, by', z⟩ ∧ takeO size (dropO off' xs) = some a ∧ takeO size (dropO off' ys) = some a' ∧ eqC T f' ft' a a' = some c := by
            intro bs hbs i ft' off' c h1 h2
            cases i with
            | zero =>
              simp only [List.getElem?_cons_zero, Option.some.injEq, Prod.mk.injEq] at h1 h2
              obtain ⟨rfl, rfl⟩ := h1
              subst h2
              exact ⟨td, size, by', z, a, a', f, by omega, hl, ha, ha', hp⟩
            | succ i => exact hbs i ft' off' c (by simpa using h1) (by simpa using h2)
          split at h
          · simp only [Option.some.injEq] at h
            subst h
            exact ⟨[p], rfl, by simp, key [] (fun i ft' off' c h => by simp at h)⟩
          · rename_i x r'
            split at h
            · cases h
            · rename_i q hq
              simp only [Option.some.injEq] at h
              subst h
              obtain ⟨bs, h1, h2, h3⟩ := eqFs_spec f _ q hq
              refine ⟨p :: bs, by simp [h1], by simp [h2], key bs (fun i ft' off' c g1 g2 => ?_)⟩
              obtain ⟨td, size, by', z, a, a', f', g3, g4⟩ := h3 i ft' off' c g1 g2
              exact ⟨td, size, by', z, a, a', f', by omega, g4⟩
      · cases h

theorem eqAr_spec {T : List (Nat × TI)} {e size : Nat} : ∀ (f n : Nat) (xs ys : List Value) (b : Bool), eqAr T f n e size xs ys = some b →
    ∃ g : Nat → Bool, (List.range n).all g = b ∧ ∀ i, i < n → ∃ a a' f', f' < f ∧ takeO size (dropO (i * size) xs) = some a ∧ takeO size (dropO (i * size) ys) = some a' ∧ eqC T f' e a a' = some (g i)
  | 0, _, _, _, _, h => by simp [eqAr] at h
  | f + 1, 0, xs, ys, b, h => by
    simp only [eqAr, Option.some.injEq] at h
    exact ⟨fun _ => true, by simp [h], fun i hi => by omega⟩
  | f + 1, n + 1, xs, ys, b, h => by
    simp only [eqAr] at h
    split at h
    · rename_i a a' ha ha'
      split at h
      · cases h
      · rename_i p hp
        split at h
        · simp only [Option.some.injEq] at h
          subst h
          refine ⟨fun _ => p, by simp, fun i hi => ?_⟩
          obtain rfl : i = 0 := by omega
          exact ⟨a, a', f, by omega, by simpa [dropO_eq] using ha, by simpa [dropO_eq] using ha', hp⟩
        · rename_i m
          split at h
          · cases h
          · rename_i q hq
            simp only [Option.some.injEq] at h
            subst h
            obtain ⟨g, h1, h2⟩ := eqAr_spec f (m + 1) _ _ q hq
            refine ⟨fun i => if i = 0 then p else g (i - 1), ?_, fun i hi => ?_⟩
            · rw [List.range_succ_eq_map, List.all_cons, List.all_map]
              simp only [if_true]
              congr 1
            · rcases Nat.eq_zero_or_pos i with rfl | hpos
              · exact ⟨a, a', f, by omega, by simpa [dropO_eq] using ha, by simpa [dropO_eq] using ha', by simpa using hp⟩
              · obtain ⟨c, c', f', g1, g2, g3, g4⟩ := h2 (i - 1) (by omega)
                have hi' : i * size = size + (i - 1) * size := by
                  conv => lhs; rw [show i = (i - 1) + 1 by omega, Nat.add_mul]
                  omega
                refine ⟨c, c', f', by omega, ?_, ?_, by simpa [show i ≠ 0 by omega] using g4⟩
                · rw [hi', dropO_eq, ← List.drop_drop, ← dropO_eq, ← dropO_eq]; exact g2
                · rw [hi', dropO_eq, ← List.drop_drop, ← dropO_eq, ← dropO_eq]; exact g3
    · cases h

theorem eqC_ok {P : Program} {T : List (Nat × TI)} (hT : TabOk P T) (hE : eqOkB P T = true) (hO : oneB T = true) {w : World} : ∀ (f : Nat) (t : TypeId) (xs ys : List Value) (b : Bool) (u v : Value), eqC T f t xs ys = some b → partIs T t xs u → partIs T t ys v →
    ∀ d, (Op.equalIn (d + f) t u v).run P w = .ok b w := by
  intro f
  induction f using Nat.strongRecOn with
  | _ f ih =>
  intro t xs ys b u v h hu hv d
  cases f with
  | zero => simp [eqC] at h
  | succ f =>
    obtain ⟨iu, hlu, hu⟩ := hu
    obtain ⟨iv, hlv, hv⟩ := hv
    have mono : ∀ f', f' < f + 1 → ∃ d', d + f = d' + f' := fun f' h => ⟨d + f - f', by omega⟩
    simp only [eqC] at h
    rw [hlu] at hlv h
    cases hlv
    obtain ⟨x, hx, hf⟩ := (hT.at hlu).under
    split at h
    · rename_i heq
      simp only [Option.some.injEq] at heq
      subst heq
      simp only [TD.fits] at hf
      subst hf
      split at h
      · simp only [Option.some.injEq] at h
        subst h
        rcases hu with ⟨h1, _⟩ | ⟨_, h1⟩
        · simp [TD.agg] at h1
        rcases hv with ⟨h2, _⟩ | ⟨_, h2⟩
        · simp [TD.agg] at h2
        simp only [List.cons.injEq, and_true] at h1 h2
        subst h1; subst h2
        rw [← Nat.add_assoc]
        exact run_equalIn_bool hx
      · cases h
    · rename_i heq
      simp only [Option.some.injEq] at heq
      subst heq
      simp only [TD.fits] at hf
      subst hf
      split at h
      · split at h
        · rename_i hk
          subst hk
          simp only [Option.some.injEq] at h
          subst h
          rcases hu with ⟨h1, _⟩ | ⟨_, h1⟩
          · simp [TD.agg] at h1
          rcases hv with ⟨h2, _⟩ | ⟨_, h2⟩
          · simp [TD.agg] at h2
          simp only [List.cons.injEq, and_true] at h1 h2
          subst h1; subst h2
          rw [← Nat.add_assoc]
          exact Go.run_equalIn_int w _ t _ _ _ _ hx
        · cases h
      · cases h
    · rename_i fs size by' z heq
      simp only [Option.some.injEq] at heq
      subst heq
      obtain ⟨g, rfl, hg⟩ := hf
      rcases hu with ⟨_, rfl⟩ | ⟨h1, _⟩
      rotate_left
      · simp [TD.agg] at h1
      rcases hv with ⟨_, rfl⟩ | ⟨h1, _⟩
      rotate_left
      · simp [TD.agg] at h1
      have hfo : P.fieldsOf t = g := by unfold Program.fieldsOf; rw [hx]
      obtain ⟨hst, hnm⟩ := eqOkB_mem hE _ (lookT_mem hlu) _ rfl
      simp only at hst hnm
      rw [← Nat.add_assoc, run_equalIn_struct w _ t _ _ (by rw [hfo]; exact hx) hst]
      obtain ⟨bs, h1, rfl, h3⟩ := eqFs_spec f fs b h
      rw [hfo] at hnm ⊢
      refine run_eqFields g.toList bs (by rw [h1, ← hg]; simp) hnm (fun i fd c hi hc => ?_)
      obtain ⟨td, size', by'', z', a, a', f', g1, g2, g3, g4, g5⟩ := h3 i fd.type fd.offset c (by rw [← hg]; simp [hi]) hc
      have hone : td.agg = false → size' = 1 := fun h => oneB_mem hO _ (lookT_mem g2) h
      obtain ⟨p, hp1, hp2⟩ := run_part_of hT g2 hone g3 w
      obtain ⟨q, hq1, hq2⟩ := run_part_of hT g2 hone g4 w
      obtain ⟨d', hd'⟩ := mono f' (by omega)
      refine ⟨p, q, hp1, hq1, ?_⟩
      rw [hd']
      exact ih f' (by omega) fd.type a a' c p q g5 hp2 hq2 d'
    · rename_i n e size by' z heq
      simp only [Option.some.injEq] at heq
      subst heq
      simp only [TD.fits] at hf
      subst hf
      rcases hu with ⟨_, rfl⟩ | ⟨h1, _⟩
      rotate_left
      · simp [TD.agg] at h1
      rcases hv with ⟨_, rfl⟩ | ⟨h1, _⟩
      rotate_left
      · simp [TD.agg] at h1
      split at h
      · rename_i tde se bye ze hle
        obtain ⟨g, rfl, h2⟩ := eqAr_spec f n xs ys b h
        have hone : tde.agg = false → se = 1 := fun h => oneB_mem hO _ (lookT_mem hle) h
        rw [← Nat.add_assoc]
        refine run_equalIn_arr hx ((hT.at hle).size w) (fun i hi => ?_)
        obtain ⟨a, a', f', g1, g2, g3, g4⟩ := h2 i hi
        obtain ⟨p, hp1, hp2⟩ := run_part_of hT hle hone g2 w
        obtain ⟨q, hq1, hq2⟩ := run_part_of hT hle hone g3 w
        obtain ⟨d', hd'⟩ := mono f' (by omega)
        refine ⟨p, q, hp1, hq1, ?_⟩
        rw [hd']
        exact ih f' (by omega) e a a' (g i) p q g4 hp2 hq2 d'
      · cases h
    · cases h

section
variable {P : Program} {T : List (Nat × TI)} {E : List (Nat × Value)} {n : Nat} {w0 : World} {A : List Nat} {L : List Blk}
theorem val_eqs (hT : TabOk P T) (hE : eqOkB P T = true) (hO : oneB T = true) {t yt : TypeId} {x y : Operand} {ty : TypeId} {i : TI} {cx cy : Array Value} {b : Bool}
    (hm : P.eqGuardType P.depth t = false) (hl : lookT T t = some i) (ha : i.d.agg = true) (hx : evO E x = some (.agg cx)) (hy : evO E y = some (.agg cy)) (hb : eqC T 12 t cx.toList cy.toList = some b) :
    Val P w0 A n E L (.binOp .eql t x y yt) ty (.bool b) := by
  intro a w hF hI d pos aft g
  have := eqC_ok hT hE hO (w := w) 12 t _ _ b _ _ hb ⟨i, hl, .inl ⟨ha, rfl⟩⟩ ⟨i, hl, .inl ⟨ha, rfl⟩⟩ 9988
  refine run_v ?_
  rw [hF.eval hx, hF.eval hy, Sem.run_bind, run_eqGuard_agg w _ _ _ _ _ _ hm]
  simp only [Result.andThen_ok]
  rw [run_eql_struct]
  have h2 : (Op.equalIn 10000 t (.agg cx) (.agg cy)).run P w = .ok b w := this
  rw [h2]
  rfl
theorem val_nes (hT : TabOk P T) (hE : eqOkB P T = true) (hO : oneB T = true) {t yt : TypeId} {x y : Operand} {ty : TypeId} {i : TI} {cx cy : Array Value} {b : Bool}
    (hm : P.eqGuardType P.depth t = false) (hl : lookT T t = some i) (ha : i.d.agg = true) (hx : evO E x = some (.agg cx)) (hy : evO E y = some (.agg cy)) (hb : eqC T 12 t cx.toList cy.toList = some b) :
    Val P w0 A n E L (.binOp .neq t x y yt) ty (.bool (!b)) := by
  intro a w hF hI d pos aft g
  have := eqC_ok hT hE hO (w := w) 12 t _ _ b _ _ hb ⟨i, hl, .inl ⟨ha, rfl⟩⟩ ⟨i, hl, .inl ⟨ha, rfl⟩⟩ 9988
  refine run_v ?_
  rw [hF.eval hx, hF.eval hy, Sem.run_bind, run_eqGuard_agg w _ _ _ _ _ _ hm]
  simp only [Result.andThen_ok]
  rw [run_neq_struct]
  have h2 : (Op.equalIn 10000 t (.agg cx) (.agg cy)).run P w = .ok b w := this
  rw [h2]
  rfl
end

/-! ### Cutting -/
theorem cut2 {α : Type} {xs ys : List α} {i j : Int} {nx cap : Nat} (hg : cutI xs i j = some ys) (hn : nx = xs.length) (hcap : nx ≤ cap) : j ≤ (cap : Int) ∧ (cap : Int) ≤ cap := by
  unfold cutI at hg
  split at hg
  · omega
  · cases hg
theorem cut3a {α : Type} {xs ys : List α} {i j m : Int} (hg : cut3I xs i j m = some ys) : cutI xs i j = some ys := by
  unfold cut3I at hg
  split at hg
  · exact hg
  · cases hg
theorem cut3b {α : Type} {xs ys : List α} {i j m : Int} {nx cap : Nat} (hg : cut3I xs i j m = some ys) (hn : nx = xs.length) (hcap : nx ≤ cap) : j ≤ m ∧ m ≤ cap := by
  unfold cut3I at hg
  split at hg
  · omega
  · cases hg
section
variable {α : Type} {enc : α → List Value} {t e : TypeId} {s1 b1 size by' : Nat} {z1 z : Option (List Value)} {td : TD} {x : Operand} {lo hi mx : Option Operand} {a : Option Addr} {cap nx : Nat} {i j m : Int} {ty : TypeId} {xs ys : List α} {Ls : List Blk}

/-- What is told of a cut. -/
def CutK (a : Option Addr) (nx cap e size : Nat) (enc : α → List Value) (xs ys : List α) (mx : Option Operand) (m i j : Int) (K : Value → Prop) : Prop :=
  ∀ a' n' cap', n' = ys.length → n' ≤ cap' → (∀ w0 A B, Rds w0 A B a (flat enc xs) → Rds w0 A B a' (flat enc ys)) →
    (∀ B, mx = none → Own e size a nx cap (flat enc xs) B → Own e size a' n' cap' (flat enc ys) B) → (mx ≠ none → (m = i → cap' = 0 ∧ n' = 0) ∧ (m = j → cap' = n')) → K (.slice a' n' cap')

theorem wl_cut {d : Nat} {pos : String} {aft : Array Edge} (hT : TabOk P T) (hlt : lookT T t = some ⟨.slice e, s1, b1, z1⟩) (hle : lookT T e = some ⟨td, size, by', z⟩)
    (hx : evO E x = some (.slice a nx cap)) (hn : nx = xs.length) (hth : flat enc xs ≠ [] → a.isSome = true) (he : ∀ x, (enc x).length = size) (hcap : nx ≤ cap)
    (hl : (lo = none ∧ i = 0) ∨ ∃ y k, lo = some y ∧ evO E y = some (.int k i)) (hh : (hi = none ∧ j = nx) ∨ ∃ y k, hi = some y ∧ evO E y = some (.int k j))
    (hm : (mx = none ∧ m = cap) ∨ ∃ y k, mx = some y ∧ evO E y = some (.int k m)) (hhm : hi = none → mx = none) (hjm : j ≤ m ∧ m ≤ cap) (hg : cutI xs i j = some ys) (hd : Nat.blt d n = true)
    (k : CutK a nx cap e size enc xs ys mx m i j (fun v => WL P ops Q w0 A n rest ((d, v) :: E) L)) : WL P ops Q w0 A n (⟨some d, .slice t x lo hi mx, ty, pos, aft, none⟩ :: rest) E L := by
  obtain ⟨a', n', cap', h1, h2, h3, h4, h5, h6⟩ := val_cut (P := P) (w0 := w0) (A := A) (n := n) (L := L) (ty := ty) hT hlt hle hx hn hth he hcap hl hh hm hhm hjm hg
  exact wl_val h3 hd (k a' n' cap' h1 h2 h4 h5 h6)

theorem wq_cut {d : Nat} {pos : String} {aft : Array Edge} (hT : TabOk P T) (hlt : lookT T t = some ⟨.slice e, s1, b1, z1⟩) (hle : lookT T e = some ⟨td, size, by', z⟩)
    (hx : evO E x = some (.slice a nx cap)) (hn : nx = xs.length) (hth : flat enc xs ≠ [] → a.isSome = true) (he : ∀ x, (enc x).length = size) (hcap : nx ≤ cap)
    (hl : (lo = none ∧ i = 0) ∨ ∃ y k, lo = some y ∧ evO E y = some (.int k i)) (hh : (hi = none ∧ j = nx) ∨ ∃ y k, hi = some y ∧ evO E y = some (.int k j))
    (hm : (mx = none ∧ m = cap) ∨ ∃ y k, mx = some y ∧ evO E y = some (.int k m)) (hhm : hi = none → mx = none) (hjm : j ≤ m ∧ m ≤ cap) (hg : cutI xs i j = some ys) (hd : Nat.blt d n = true)
    (k : CutK a nx cap e size enc xs ys mx m i j (fun v => WQ P ops Q w0 A n rest ((d, v) :: E) L)) : WQ P ops Q w0 A n (⟨some d, .slice t x lo hi mx, ty, pos, aft, none⟩ :: rest) E L := by
  obtain ⟨a', n', cap', h1, h2, h3, h4, h5, h6⟩ := val_cut (P := P) (w0 := w0) (A := A) (n := n) (L := L) (ty := ty) hT hlt hle hx hn hth he hcap hl hh hm hhm hjm hg
  exact wq_val h3 hd (k a' n' cap' h1 h2 h4 h5 h6)
end

/-! ### Growing -/
theorem run_append_zero {t e ty : TypeId} {a a' : Option Addr} {len cap c : Nat} {w : World} {i : TypeInfo} (hxt : P.underlying t = some (.slice e)) (hi : P.info? e = some i) (hc : len ≤ cap) :
    (Builtin.append_ #[t, t] ty #[.slice a len cap, .slice a' 0 c]).run P w = .ok (.slice a len cap) w := by
  cases a <;> cases a' <;> simp [Builtin.append_, run_underlying hxt, sizeOf, typeInfo, hi, Builtin.lenOf, Builtin.firstCells, loadCells, loadCellsFrom, hc, storeCells]

theorem allOne_flat {α : Type} {enc : α → List Value} (h : ∀ x, allOne (enc x) = true) : ∀ xs : List α, allOne (flat enc xs) = true
  | [] => rfl
  | x :: xs => by
    have h2 := allOne_flat h xs
    have key : ∀ (l m : List Value), allOne l = true → allOne m = true → allOne (l ++ m) = true := by
      intro l m h1 h2
      induction l with
      | nil => exact h2
      | cons y l ih => simp only [allOne, Bool.and_eq_true, List.cons_append] at *; exact ⟨h1.1, ih h1.2⟩
    unfold flat at *
    rw [List.flatMap_cons]
    exact key _ _ (h x) h2

theorem run_append_room_off {t ty e : TypeId} {i : TypeInfo} {w : World} (ht : P.underlying t = some (.slice e)) (hi : P.info? e = some i)
    {g o sLen sCap : Nat} {cur : Array Value} (hg : w.heap[g]? = some (.cells cur e (0, 0)))
    {a : Addr} {m c : Nat} {news : List Value} (hl : news.length = m * i.size) (hnews : ∀ j u, news[j]? = some u → w.cell? (a.add j) = some u) (h1 : ∀ u ∈ news, u.oneCell' = true)
    (hroom : sLen + m ≤ sCap) (hfit : o + sLen * i.size + news.length ≤ cur.size) :
    (Builtin.append_ #[t, t] ty #[.slice (some ⟨g, o, none⟩) sLen sCap, .slice (some a) m c]).run P w =
      .ok (.slice (some ⟨g, o, none⟩) (sLen + m) sCap) (w.setRow g (cur.toList.take (o + sLen * i.size) ++ news ++ cur.toList.drop (o + sLen * i.size + news.length)).toArray) := by
  have hf := run_firstCells_some (P := P) w i.size m a m c news hl hnews
  have hst := run_storeCells_at P g (o + sLen * i.size) e news 0 cur w hg (by simpa using hfit) h1
  simp only [Nat.add_zero] at hst
  simp [Builtin.append_, run_underlying ht, sizeOf, typeInfo, hi, Builtin.lenOf, hroom, hf, Addr.add_lit, hst]

/-- 'append(xs, ys...)', xs being our own. -/
theorem chg_app {α : Type} {enc : α → List Value} (hT : TabOk P T) {s x : Operand} {t e ty : TypeId} {a a1 : Option Addr} {cap c1 size by' s1 b1 nx ny : Nat} {z : List Value} {td : TD} {z1 : Option (List Value)} {xs ys zs : List α} {B1 : List Blk}
    (hlt : lookT T t = some ⟨.slice e, s1, b1, z1⟩) (hle : lookT T e = some ⟨td, size, by', some z⟩) (hzl : z.length = size) (hbs : Nat.ble by' 4096 = true)
    (hs : evO E s = some (.slice a nx cap)) (hx : evO E x = some (.slice a1 ny c1)) (hn : nx = xs.length) (hny : ny = ys.length) (hV : Own e size a nx cap (flat enc xs) B) (hp : L.Perm (B ++ R))
    (hr : Rds w0 A B1 a1 (flat enc ys)) (hB1 : ∃ R, L.Perm (B1 ++ R)) (he : ∀ x, (enc x).length = size) (h1 : ∀ x, allOne (enc x) = true) (hpos : Nat.blt 0 size = true) (hg : appI xs ys = some zs) :
    Chg P w0 A n E L (.call ⟨.builtin .append, #[s, x], #[t, t]⟩) ty (fun v L' => ∃ a' n' cap' B', v = .slice a' n' cap' ∧ n' = zs.length ∧ Own e size a' n' cap' (flat enc zs) B' ∧ L' = B' ++ R) := by
  subst hn; subst hny
  unfold appI at hg
  split at hg
  rotate_left
  · cases hg
  rename_i hc
  simp only [Option.some.injEq] at hg
  subst hg
  have hpos' : 0 < size := by simpa using hpos
  intro ac w hF hI d pos aft g
  obtain ⟨i, hi, hsz, hb, hz⟩ := (hT.at hle).info
  obtain ⟨zv, hzv, hzc⟩ := hz z rfl
  obtain ⟨xt, hxt, hft⟩ := (hT.at hlt).under
  simp only [TD.fits] at hft
  subst hft
  simp only at hsz hb
  have hcap : xs.length ≤ cap := by
    rcases hV.2 with ⟨h2, h3⟩ | ⟨g, pr, r, _, h2, _⟩
    · omega
    · exact h2
  have hrun : ∀ v' w', (Builtin.append_ #[t, t] ty #[.slice a xs.length cap, .slice a1 ys.length c1]).run P w = .ok v' w' → (execOp ac.eval ⟨d, .call ⟨.builtin .append, #[s, x], #[t, t]⟩, ty, pos, aft, g⟩).run P w = .ok (.value v') w' := by
    intro v' w' hr
    rw [exec_builtin]
    have e2 : (#[s, x] : Array Operand).map ac.eval = #[.slice a xs.length cap, .slice a1 ys.length c1] := by simp [hF.eval hs, hF.eval hx]
    rw [e2]
    show ((Builtin.append_ #[t, t] ty #[.slice a xs.length cap, .slice a1 ys.length c1]) >>= fun x => (pure (Next.value x) : Sem Next)).run P w = _
    rw [Sem.run_bind, hr]
    rfl
  rcases Nat.eq_zero_or_pos ys.length with h0 | h0
  · have hys : ys = [] := List.eq_nil_of_length_eq_zero h0
    subst hys
    refine ⟨_, w, _, B ++ R, hrun _ _ (run_append_zero hxt hi hcap), .inl rfl, hI.perm hp, a, xs.length, cap, B, rfl, by simp, by simpa using hV, rfl⟩
  · have hfy : (flat enc ys).length = ys.length * size := flat_length he ys
    have hne : flat enc ys ≠ [] := by
      intro h2
      rw [h2] at hfy
      have h3 : 0 < ys.length * size := Nat.mul_pos h0 hpos'
      simp only [List.length_nil] at hfy
      omega
    obtain ⟨ad, rfl⟩ := Option.isSome_iff_exists.1 (hr.there hne).1
    have hnews : ∀ j u, (flat enc ys)[j]? = some u → w.cell? (ad.add j) = some u := fun j u hj => hr.up hI hB1 j u hj
    have hb' : by' ≤ 4096 := Nat.le_of_ble_eq_true hbs
    have hmul : (xs.length + ys.length) * by' ≤ 140737488355328 := by
      have : (xs.length + ys.length) * by' ≤ 1073741824 * 4096 := Nat.mul_le_mul hc hb'
      omega
    have hlen : (flat enc (xs ++ ys)).length = (xs.length + ys.length) * size := by rw [flat_length he, List.length_append]
    have hfresh : ∀ old, ∃ B' L', Inv w0 A (w.drew.alloc (.cells ((flat enc xs).toArray ++ (flat enc ys).toArray ++ Builtin.zeroCells zv.cells (grownCap w (xs.length + ys.length) old e - (xs.length + ys.length))) e)) L' ∧
        Own e size (some ⟨w.heap.size, 0, Option.none⟩) (xs.length + ys.length) (grownCap w (xs.length + ys.length) old e) (flat enc (xs ++ ys)) B' ∧ L' = B' ++ R := by
      intro old
      have hge := grownCap_ge w (xs.length + ys.length) old e
      have h2 := hI.fresh hp (flat enc xs ++ flat enc ys ++ (Builtin.zeroCells zv.cells (grownCap w (xs.length + ys.length) old e - (xs.length + ys.length))).toList) e (w.drawn + 1)
      refine ⟨[⟨w.heap.size, flat enc xs ++ flat enc ys ++ (Builtin.zeroCells zv.cells (grownCap w (xs.length + ys.length) old e - (xs.length + ys.length))).toList, e, (0, 0)⟩], _, ?_, ⟨hlen, .inr ⟨_, [], _, rfl, hge, grownCap_le_maxLen w _ old e (by simp only [maxLen]; omega), ?_, by rw [← flat_append]; rfl⟩⟩, rfl⟩
      · have e3 : ((flat enc xs).toArray ++ (flat enc ys).toArray ++ Builtin.zeroCells zv.cells (grownCap w (xs.length + ys.length) old e - (xs.length + ys.length))) = (flat enc xs ++ flat enc ys ++ (Builtin.zeroCells zv.cells (grownCap w (xs.length + ys.length) old e - (xs.length + ys.length))).toList).toArray := by apply Array.ext'; simp
        rw [e3]
        exact h2
      · have hz2 : ∀ m, (Builtin.zeroCells zv.cells m).toList.length = m * size := fun m => by rw [Array.length_toList, size_zeroCells, hzc]; simp [hzl]
        rw [List.length_append, hlen, hz2, ← Nat.add_mul]
        congr 1
        omega
    have fin : ∀ old, (Builtin.append_ #[t, t] ty #[.slice a xs.length cap, .slice (some ad) ys.length c1]).run P w = .ok (.slice (some ⟨w.heap.size, 0, Option.none⟩) (xs.length + ys.length) (grownCap w (xs.length + ys.length) old e)) (w.drew.alloc (.cells ((flat enc xs).toArray ++ (flat enc ys).toArray ++ Builtin.zeroCells zv.cells (grownCap w (xs.length + ys.length) old e - (xs.length + ys.length))) e)) →
        ∃ nx w' v L', (execOp ac.eval ⟨d, .call ⟨.builtin .append, #[s, x], #[t, t]⟩, ty, pos, aft, g⟩).run P w = .ok nx w' ∧ (nx = .value v ∨ (nx = .skip ∧ v = undef)) ∧ Inv w0 A w' L' ∧ ∃ a' n' cap' B', v = .slice a' n' cap' ∧ n' = (xs ++ ys).length ∧ Own e size a' n' cap' (flat enc (xs ++ ys)) B' ∧ L' = B' ++ R := by
      intro old hr
      obtain ⟨B', L', hI', hV', rfl⟩ := hfresh old
      exact ⟨_, _, _, _, hrun _ _ hr, .inl rfl, hI', _, _, _, B', rfl, by rw [List.length_append], hV', rfl⟩
    rcases hV.2 with ⟨h2, h3⟩ | ⟨gb, pr, r, rfl, hkc, hcm, hcl, rfl⟩
    · subst h3
      have hxs : xs = [] := List.eq_nil_of_length_eq_zero h2
      subst hxs
      refine fin 0 ?_
      have hf0 : (flat enc ([] : List α)).toArray = #[] := rfl
      simp only [List.length_nil, Nat.zero_add, hf0, Array.empty_append]
      cases a with
      | none => exact run_append_nil (P := P) w t ty e i zv hxt hi hzv ad ys.length c1 (flat enc ys) (by rw [hsz]; exact hfy) hnews h0 (by omega) (by rw [hb]; simp only [List.length_nil, Nat.zero_add] at hmul; omega)
      | some b =>
        have := run_append_grow (P := P) w t ty e i zv hxt hi hzv b 0 0 [] (by simp) (fun j v h => by simp at h) ad ys.length c1 (flat enc ys) (by rw [hsz]; exact hfy) hnews (by omega) (by simp; omega) (by rw [hb]; exact growslice_fits (by omega) (by simpa using hmul))
        simpa using this
    · have hown := hI.own ⟨gb, pr ++ (flat enc xs ++ r), e, (0, 0)⟩ (hp.mem_iff.2 (by simp))
      simp only at hown
      have hfx : (flat enc xs).length = xs.length * size := hV.1
      by_cases hroom : xs.length + ys.length ≤ cap
      · have hmulc : (xs.length + ys.length) * size ≤ cap * size := Nat.mul_le_mul_right _ hroom
        rw [Nat.add_mul] at hmulc
        rw [List.length_append] at hcl
        have hr := run_append_room_off (P := P) (w := w) (ty := ty) hxt hi (g := gb) (o := pr.length) (sLen := xs.length) (sCap := cap) hown (a := ad) (m := ys.length) (c := c1) (news := flat enc ys) (by rw [hsz]; exact hfy) hnews (allOne_eq (allOne_flat h1 ys)) hroom (by simp only [List.size_toArray, List.length_append]; rw [hsz]; omega)
        have e1' : ((pr ++ (flat enc xs ++ r)).toArray.toList.take (pr.length + xs.length * i.size) ++ flat enc ys ++ (pr ++ (flat enc xs ++ r)).toArray.toList.drop (pr.length + xs.length * i.size + (flat enc ys).length)) = pr ++ (flat enc (xs ++ ys) ++ r.drop (flat enc ys).length) := by
          rw [hsz, ← hfx, flat_append]
          simp only [List.append_assoc, Nat.add_assoc, List.take_length_add_append, List.drop_length_add_append]
          rw [List.take_append_of_le_length (Nat.le_refl _), List.take_length]
        rw [e1'] at hr
        have hI2 := (hI.perm hp).setRow (c' := pr ++ (flat enc (xs ++ ys) ++ r.drop (flat enc ys).length)) Upd.here
        refine ⟨_, _, _, _, hrun _ _ hr, .inl rfl, hI2, some ⟨gb, pr.length, Option.none⟩, xs.length + ys.length, cap, [⟨gb, pr ++ (flat enc (xs ++ ys) ++ r.drop (flat enc ys).length), e, (0, 0)⟩], rfl, by rw [List.length_append], ⟨hlen, .inr ⟨gb, pr, _, rfl, hroom, hcm, ?_, rfl⟩⟩, rfl⟩
        rw [List.length_append, hlen, List.length_drop, Nat.add_mul]
        omega
      · refine fin cap (run_append_grow (P := P) w t ty e i zv hxt hi hzv ⟨gb, pr.length, Option.none⟩ xs.length cap (flat enc xs) (by rw [hsz]; exact hfx) ?_ ad ys.length c1 (flat enc ys) (by rw [hsz]; exact hfy) hnews (by omega) (by omega) (by rw [hb]; exact growslice_fits (by omega) hmul))
        intro j u hu
        rw [Addr.add_lit, cell_of hown]
        simp only [List.getElem?_toArray]
        rw [List.getElem?_append_right (by omega), show pr.length + j - pr.length = j by omega, List.getElem?_append_left (List.getElem?_eq_some_iff.1 hu).1]
        exact hu

/-- 'append(xs, ys...)', xs being readable and full: what is made is memory of its own, or xs. -/
theorem chg_appf {α : Type} {enc : α → List Value} (hT : TabOk P T) {s x : Operand} {t e ty : TypeId} {a a1 : Option Addr} {cap c1 size by' s1 b1 nx ny : Nat} {z : List Value} {td : TD} {z1 : Option (List Value)} {xs ys zs : List α} {B1 : List Blk}
    (hlt : lookT T t = some ⟨.slice e, s1, b1, z1⟩) (hle : lookT T e = some ⟨td, size, by', some z⟩) (hzl : z.length = size) (hbs : Nat.ble by' 4096 = true)
    (hs : evO E s = some (.slice a nx cap)) (hx : evO E x = some (.slice a1 ny c1)) (hn : nx = xs.length) (hny : ny = ys.length) (hfull : cap = nx) (hr0 : Rds w0 A [] a (flat enc xs))
    (hr : Rds w0 A B1 a1 (flat enc ys)) (hB1 : ∃ R, L.Perm (B1 ++ R)) (he : ∀ x, (enc x).length = size) (h1 : ∀ x, allOne (enc x) = true) (hpos : Nat.blt 0 size = true) (hg : appI xs ys = some zs) :
    Chg P w0 A n E L (.call ⟨.builtin .append, #[s, x], #[t, t]⟩) ty (fun v L' => ∃ a' n' cap' B', v = .slice a' n' cap' ∧ n' = zs.length ∧ n' ≤ cap' ∧ Rds w0 A B' a' (flat enc zs) ∧ L' = B' ++ L) := by
  subst hn; subst hny; subst hfull
  unfold appI at hg
  split at hg
  rotate_left
  · cases hg
  rename_i hc
  simp only [Option.some.injEq] at hg
  subst hg
  have hpos' : 0 < size := by simpa using hpos
  intro ac w hF hI d pos aft g
  obtain ⟨i, hi, hsz, hb, hz⟩ := (hT.at hle).info
  obtain ⟨zv, hzv, hzc⟩ := hz z rfl
  obtain ⟨xt, hxt, hft⟩ := (hT.at hlt).under
  simp only [TD.fits] at hft
  subst hft
  simp only at hsz hb
  have hrun : ∀ v' w', (Builtin.append_ #[t, t] ty #[.slice a xs.length xs.length, .slice a1 ys.length c1]).run P w = .ok v' w' → (execOp ac.eval ⟨d, .call ⟨.builtin .append, #[s, x], #[t, t]⟩, ty, pos, aft, g⟩).run P w = .ok (.value v') w' := by
    intro v' w' hr
    rw [exec_builtin]
    have e2 : (#[s, x] : Array Operand).map ac.eval = #[.slice a xs.length xs.length, .slice a1 ys.length c1] := by simp [hF.eval hs, hF.eval hx]
    rw [e2]
    show ((Builtin.append_ #[t, t] ty #[.slice a xs.length xs.length, .slice a1 ys.length c1]) >>= fun x => (pure (Next.value x) : Sem Next)).run P w = _
    rw [Sem.run_bind, hr]
    rfl
  rcases Nat.eq_zero_or_pos ys.length with h0 | h0
  · have hys : ys = [] := List.eq_nil_of_length_eq_zero h0
    subst hys
    refine ⟨_, w, _, [] ++ L, hrun _ _ (run_append_zero hxt hi (Nat.le_refl _)), .inl rfl, hI, a, xs.length, xs.length, [], rfl, by simp, Nat.le_refl _, by simpa using hr0, rfl⟩
  · have hfy : (flat enc ys).length = ys.length * size := flat_length he ys
    have hne : flat enc ys ≠ [] := by
      intro h2
      rw [h2] at hfy
      have h3 : 0 < ys.length * size := Nat.mul_pos h0 hpos'
      simp only [List.length_nil] at hfy
      omega
    obtain ⟨ad, rfl⟩ := Option.isSome_iff_exists.1 (hr.there hne).1
    have hnews : ∀ j u, (flat enc ys)[j]? = some u → w.cell? (ad.add j) = some u := fun j u hj => hr.up hI hB1 j u hj
    have hb' : by' ≤ 4096 := Nat.le_of_ble_eq_true hbs
    have hmul : (xs.length + ys.length) * by' ≤ 140737488355328 := by
      have : (xs.length + ys.length) * by' ≤ 1073741824 * 4096 := Nat.mul_le_mul hc hb'
      omega
    have hlen : (flat enc (xs ++ ys)).length = (xs.length + ys.length) * size := by rw [flat_length he, List.length_append]
    have hfresh : ∀ old, ∃ B' L', Inv w0 A (w.drew.alloc (.cells ((flat enc xs).toArray ++ (flat enc ys).toArray ++ Builtin.zeroCells zv.cells (grownCap w (xs.length + ys.length) old e - (xs.length + ys.length))) e)) L' ∧
        Own e size (some ⟨w.heap.size, 0, Option.none⟩) (xs.length + ys.length) (grownCap w (xs.length + ys.length) old e) (flat enc (xs ++ ys)) B' ∧ L' = B' ++ L := by
      intro old
      have hge := grownCap_ge w (xs.length + ys.length) old e
      have h2 := hI.fresh (show L.Perm ([] ++ L) from List.Perm.refl _) (flat enc xs ++ flat enc ys ++ (Builtin.zeroCells zv.cells (grownCap w (xs.length + ys.length) old e - (xs.length + ys.length))).toList) e (w.drawn + 1)
      refine ⟨[⟨w.heap.size, flat enc xs ++ flat enc ys ++ (Builtin.zeroCells zv.cells (grownCap w (xs.length + ys.length) old e - (xs.length + ys.length))).toList, e, (0, 0)⟩], _, ?_, ⟨hlen, .inr ⟨_, [], _, rfl, hge, grownCap_le_maxLen w _ old e (by simp only [maxLen]; omega), ?_, by rw [← flat_append]; rfl⟩⟩, rfl⟩
      · have e3 : ((flat enc xs).toArray ++ (flat enc ys).toArray ++ Builtin.zeroCells zv.cells (grownCap w (xs.length + ys.length) old e - (xs.length + ys.length))) = (flat enc xs ++ flat enc ys ++ (Builtin.zeroCells zv.cells (grownCap w (xs.length + ys.length) old e - (xs.length + ys.length))).toList).toArray := by apply Array.ext'; simp
        rw [e3]
        exact h2
      · have hz2 : ∀ m, (Builtin.zeroCells zv.cells m).toList.length = m * size := fun m => by rw [Array.length_toList, size_zeroCells, hzc]; simp [hzl]
        rw [List.length_append, hlen, hz2, ← Nat.add_mul]
        congr 1
        omega
    have fin : ∀ old, (Builtin.append_ #[t, t] ty #[.slice a xs.length xs.length, .slice (some ad) ys.length c1]).run P w = .ok (.slice (some ⟨w.heap.size, 0, Option.none⟩) (xs.length + ys.length) (grownCap w (xs.length + ys.length) old e)) (w.drew.alloc (.cells ((flat enc xs).toArray ++ (flat enc ys).toArray ++ Builtin.zeroCells zv.cells (grownCap w (xs.length + ys.length) old e - (xs.length + ys.length))) e)) →
        ∃ nx w' v L', (execOp ac.eval ⟨d, .call ⟨.builtin .append, #[s, x], #[t, t]⟩, ty, pos, aft, g⟩).run P w = .ok nx w' ∧ (nx = .value v ∨ (nx = .skip ∧ v = undef)) ∧ Inv w0 A w' L' ∧ ∃ a' n' cap' B', v = .slice a' n' cap' ∧ n' = (xs ++ ys).length ∧ n' ≤ cap' ∧ Rds w0 A B' a' (flat enc (xs ++ ys)) ∧ L' = B' ++ L := by
      intro old hr
      obtain ⟨B', L', hI', hV', rfl⟩ := hfresh old
      exact ⟨_, _, _, _, hrun _ _ hr, .inl rfl, hI', _, _, _, B', rfl, by rw [List.length_append], grownCap_ge w (xs.length + ys.length) old e, Rds.of_vec hV', rfl⟩
    have hfx : (flat enc xs).length = xs.length * size := flat_length he xs
    cases a with
    | none =>
      have hxs : xs = [] := rds_none hr0 he hpos'
      subst hxs
      refine fin 0 ?_
      have hf0 : (flat enc ([] : List α)).toArray = #[] := rfl
      simp only [List.length_nil, Nat.zero_add, hf0, Array.empty_append]
      exact run_append_nil (P := P) w t ty e i zv hxt hi hzv ad ys.length c1 (flat enc ys) (by rw [hsz]; exact hfy) hnews h0 (by omega) (by rw [hb]; simp only [List.length_nil, Nat.zero_add] at hmul; omega)
    | some b =>
      refine fin xs.length (run_append_grow (P := P) w t ty e i zv hxt hi hzv b xs.length xs.length (flat enc xs) (by rw [hsz]; exact hfx) ?_ ad ys.length c1 (flat enc ys) (by rw [hsz]; exact hfy) hnews (by omega) (by omega) (by rw [hb]; exact growslice_fits (by omega) hmul))
      intro j u hu
      exact hr0.up hI ⟨L, List.Perm.refl _⟩ j u hu

theorem vec_cap {e size n cap : Nat} {a : Option Addr} {cs : List Value} (hV : Own e size a n cap cs B) : n ≤ cap := by
  rcases hV.2 with ⟨h1, h2⟩ | ⟨g, pr, r, _, h2, _⟩
  · omega
  · exact h2
theorem vec_some {e size n cap : Nat} {a : Option Addr} {cs : List Value} (hV : Own e size a n cap cs B) (h : cs ≠ []) : a.isSome = true := by
  rcases hV.2 with ⟨h1, h2⟩ | ⟨g, pr, r, rfl, h2, _⟩
  · exfalso; apply h; apply List.eq_nil_of_length_eq_zero; rw [hV.1, h1]; simp
  · rfl
theorem val_len (hT : TabOk P T) {t s1 b1 e nx cap : Nat} {z1 : Option (List Value)} {x : Operand} {a : Option Addr} {ty : TypeId} {α : Type} {xs : List α} (hlt : lookT T t = some ⟨.slice e, s1, b1, z1⟩) (hx : evO E x = some (.slice a nx cap)) (hn : nx = xs.length) :
    Val P w0 A n E L (.call ⟨.builtin .len, #[x], #[t]⟩) ty (.int .i64 (xs.length : Int)) := by
  subst hn
  refine stepV_ok hT ?_
  simp only [stepV, evArgs, hx, hlt]
theorem pNo {F pre : List Blk} (h : L.Perm (pre ++ F)) : L.Perm (([] ++ pre) ++ F) := h

theorem chg_store (hT : TabOk P T) {t : TypeId} {x y : Operand} {b o : Nat} {c c' vs : List Value} {t' : TypeId} {ty : TypeId} {v : Value} {i : TI}
    (hx : evO E x = some (.pointer (some ⟨b, o, none⟩))) (hu : Upd L ⟨b, c, t', (0, 0)⟩ ⟨b, c', t', (0, 0)⟩ L') (hy : evO E y = some v) (hl : lookT T t = some i) (hv : normO (cellsL v) = some vs) (hlen : Nat.beq vs.length i.size = true)
    (h1 : allOne vs = true) (hs : setO c o vs = some c') : Chg P w0 A n E L (.store t x y) ty (fun _ L'' => L'' = L') := by
  intro a w hF hI d pos aft g
  refine ⟨.skip, w.setRow b c'.toArray, undef, _, ?_, .inr ⟨rfl, rfl⟩, hI.setRow hu, rfl⟩
  refine (Sem.run_bind _ _ _ _).trans ?_
  show Result.andThen ((Instr.storeAt t (a.eval x) (a.eval y)).run P w) _ = _
  rw [hF.eval hx, hF.eval hy]
  unfold Instr.storeAt
  simp only [Instr.sureAddr, Sem.run_bind, Sem.run_pure, Result.andThen]
  unfold storeVar
  have hcs : v.cells = vs.toArray := by rw [cellsL_eq, normO_eq hv]
  rw [runM ((hT.at hl).size w), hcs]
  have hlen' : vs.length = i.size := by simpa using hlen
  obtain ⟨e1, e2⟩ := setO_eq hs
  rw [if_neg (by simp [hlen'])]
  have hown := hI.own _ hu.mem
  simp only at hown
  rcases e2 with e2 | e2
  · subst e2
    simp only [setRange] at e1
    subst e1
    simp only [storeCells, Sem.run_pure]
    rw [setRow_self w b c'.toArray t' (0, 0) hown]
  · have hst := run_storeCells_at (P := P) b o t' vs 0 c.toArray w hown (by simpa using e2) (allOne_eq h1)
    rw [show (⟨b, o, none⟩ : Addr) = ⟨b, o, none⟩ from rfl]
    rw [show storeCells ⟨b, o, none⟩ vs.toArray.toList = storeCells ⟨b, o, none⟩ vs 0 from rfl, hst, e1, setRange_eq _ _ _ e2]
    simp

def repO : Nat → List Value → List Value
  | 0, _ => []
  | k + 1, z => z ++ repO k z
theorem repO_length (z : List Value) : ∀ k, (repO k z).length = k * z.length
  | 0 => by simp [repO]
  | k + 1 => by rw [repO, List.length_append, repO_length z k, Nat.add_mul]; omega
theorem repO_get (z : List Value) (hz : 0 < z.length) : ∀ (k i : Nat), i < k * z.length → (repO k z)[i]? = z[i % z.length]?
  | 0, i, h => by omega
  | k + 1, i, h => by
    rw [repO]
    rcases Nat.lt_or_ge i z.length with h1 | h1
    · rw [List.getElem?_append_left h1, Nat.mod_eq_of_lt h1]
    · rw [List.getElem?_append_right h1, repO_get z hz k (i - z.length) (by rw [Nat.add_mul] at h; omega)]
      congr 1
      rw [Nat.mod_eq_sub_mod h1]

/-- A slice of given parts: new memory. -/
theorem chg_bs (hT : TabOk P T) {t e : TypeId} {s1 b1 size by' len : Nat} {z1 : Option (List Value)} {z cs : List Value} {td : TD} {parts : Array (Nat × Operand)} {ps : List (Nat × Value)} {qs : List (Nat × Nat × Value)} {ty : TypeId}
    (hlt : lookT T t = some ⟨.slice e, s1, b1, z1⟩) (hle : lookT T e = some ⟨td, size, by', some z⟩) (hp : evParts E parts.toList = some ps) (hq : placed (placeA size) ps = some qs)
    (hf : fillL (repO len z) qs = some cs) (hsz : (Nat.ble (len * size) 16777216 && Nat.beq z.length size && Nat.blt 0 size) = true := by rfl) :
    Chg P w0 A n E L (.buildSlice t len parts) ty (fun v L' => ∃ b, v = .slice (some ⟨b, 0, none⟩) len len ∧ L' = ⟨b, cs, e, (0, 0)⟩ :: L) := by
  simp only [Bool.and_eq_true, Nat.beq_eq] at hsz
  obtain ⟨⟨hsz, hzl⟩, hpos⟩ := hsz
  have hpos' : 0 < size := by simpa using hpos
  refine chg_buildSlice hT hlt hle hp hsz ?_
  have hbase : ((Array.range (len * size)).map ((if len * size = 0 then #[] else z.toArray)[· % (if len * size = 0 then #[] else z.toArray).size]!)) = (repO len z).toArray := by
    by_cases h0 : len * size = 0
    · have hl : len = 0 := by rcases Nat.mul_eq_zero.1 h0 with h | h <;> omega
      subst hl
      simp [repO]
    · rw [if_neg h0]
      apply Array.ext'
      apply List.ext_getElem?
      intro i
      simp only [Array.toList_map, Array.toList_range, List.getElem?_map]
      rcases Nat.lt_or_ge i (len * size) with h1 | h1
      · rw [List.getElem?_range h1, repO_get z (by omega) len i (by rw [hzl]; exact h1)]
        simp only [Option.map_some, List.size_toArray]
        have h2 : i % z.length < z.length := Nat.mod_lt _ (by omega)
        rw [List.getElem?_eq_getElem h2]
        congr 1
        simp [h2]
      · rw [List.getElem?_eq_none (by simpa using h1), List.getElem?_eq_none (by rw [repO_length, hzl]; exact h1)]
        rfl
  rw [hbase]
  exact fill_of_fillL ps qs _ _ (by rw [← placed_eq] at hq; exact hq) hf

theorem chg_bsv {α : Type} {enc : α → List Value} (hT : TabOk P T) {t e : TypeId} {s1 b1 size by' len : Nat} {z1 : Option (List Value)} {z cs : List Value} {td : TD} {parts : Array (Nat × Operand)} {ps : List (Nat × Value)} {qs : List (Nat × Nat × Value)} {ty : TypeId} {xs : List α}
    (hlt : lookT T t = some ⟨.slice e, s1, b1, z1⟩) (hle : lookT T e = some ⟨td, size, by', some z⟩) (hp : evParts E parts.toList = some ps) (hq : placed (placeA size) ps = some qs)
    (hf : fillL (repO len z) qs = some cs) (hsz : (Nat.ble (len * size) 16777216 && Nat.beq z.length size && Nat.blt 0 size) = true) (hc : cs = flat enc xs) (hl : len = xs.length) (he : ∀ x, (enc x).length = size) :
    Chg P w0 A n E L (.buildSlice t len parts) ty (fun v L' => ∃ a' n' cap' B', v = .slice a' n' cap' ∧ n' = xs.length ∧ Own e size a' n' cap' (flat enc xs) B' ∧ L' = B' ++ L) := by
  intro a w hF hI d pos aft g
  obtain ⟨nx, w', v, L', h1, h2, h3, b, rfl, rfl⟩ := chg_bs hT hlt hle hp hq hf hsz (ty := ty) a w hF hI d pos aft g
  refine ⟨nx, w', _, _, h1, h2, h3, _, _, _, [⟨b, cs, e, (0, 0)⟩], rfl, hl, ?_, rfl⟩
  simp only [Bool.and_eq_true, Nat.beq_eq] at hsz
  obtain ⟨⟨hs, _⟩, hpos⟩ := hsz
  have hpos' : 0 < size := by simpa using hpos
  have hs' : len * size ≤ 16777216 := by simpa using hs
  have hlen : len ≤ len * size := Nat.le_mul_of_pos_right _ hpos'
  have hfl : (flat enc xs).length = len * size := by rw [flat_length he, hl]
  refine ⟨hfl, .inr ⟨b, [], [], rfl, Nat.le_refl _, ?_, by simpa using hfl, by simp [hc]⟩⟩
  have : maxLen = 9223372036854775807 := by first | rfl | decide
  omega

theorem chg_alloc (hT : TabOk P T) {t : TypeId} {ty : TypeId} {td : TD} {sz by' : Nat} {z : List Value} (hl : lookT T t = some ⟨td, sz, by', some z⟩) :
    Chg P w0 A n E L (.alloc t) ty (fun v L' => ∃ b, v = .pointer (some ⟨b, 0, none⟩) ∧ L' = ⟨b, z, t, (0, 0)⟩ :: L) := by
  intro a w hF hI d pos aft g
  refine ⟨.value (.pointer (some ⟨w.heap.size, 0, none⟩)), _, _, _, ?_, .inl rfl, hI.alloc z t, w.heap.size, rfl, rfl⟩
  refine (Sem.run_bind _ _ _ _).trans ?_
  obtain ⟨v, hz, hc⟩ := (hT.at hl).zero z rfl w
  show Result.andThen ((Instr.alloc t true (.tuple #[])).run P w) _ = _
  unfold Instr.alloc newVar newRow
  rw [runM hz, hc]
  rfl

theorem chg_box {t : TypeId} {x : Operand} {ty : TypeId} {v : Value} {cs : List Value} (hx : evO E x = some v) (hc : normO (cellsL v) = some cs) :
    Chg P w0 A n E L (.box t x) ty (fun v L' => ∃ b, v = .pointer (some ⟨b, 0, none⟩) ∧ L' = ⟨b, cs, t, (0, 0)⟩ :: L) := by
  intro a w hF hI d pos aft g
  refine ⟨.value (.pointer (some ⟨w.heap.size, 0, none⟩)), _, _, _, ?_, .inl rfl, hI.alloc cs t, w.heap.size, rfl, rfl⟩
  refine (Sem.run_bind _ _ _ _).trans ?_
  have : v.cells = cs.toArray := by rw [cellsL_eq, normO_eq hc]
  rw [hF.eval hx]
  show Result.andThen ((Instr.box t v).run P w) _ = _
  unfold Instr.box newVar newRow
  rw [this]
  rfl

theorem Chg.of_val {op : Op} {ty : TypeId} {v : Value} (h : Val P w0 A n E L op ty v) : Chg P w0 A n E L op ty (fun u L' => u = v ∧ L' = L) := by
  intro a w hF hI d pos aft g
  exact ⟨_, w, v, L, h a w hF hI d pos aft g, .inl rfl, hI, rfl, rfl⟩

def mkI {α : Type} (n : Int) (z : α) : Option (List α) := if 0 ≤ n ∧ n ≤ 65536 then some (List.replicate n.toNat z) else none

theorem flat_replicate {α : Type} (enc : α → List Value) (y : α) : ∀ k, flat enc (List.replicate k y) = repO k (enc y)
  | 0 => rfl
  | k + 1 => by
    have := flat_replicate enc y k
    simp only [flat, List.replicate_succ, List.flatMap_cons, repO] at *
    rw [this]

/-- make([]T, n): new memory, zeros. -/
theorem chg_make {α : Type} {enc : α → List Value} (hT : TabOk P T) {t e : TypeId} {s1 b1 size by' : Nat} {z1 : Option (List Value)} {z : List Value} {td : TD} {l c : Operand} {kl kc : IntKind} {v : Int} {ty : TypeId} {xs : List α} {y : α}
    (hlt : lookT T t = some ⟨.slice e, s1, b1, z1⟩) (hle : lookT T e = some ⟨td, size, by', some z⟩) (hbs : Nat.ble by' 4096 = true) (hl : evO E l = some (.int kl v)) (hc : evO E c = some (.int kc v))
    (hz : z = enc y) (he : ∀ x, (enc x).length = size) (hpos : Nat.blt 0 size = true) (hg : mkI v y = some xs) :
    Chg P w0 A n E L (.makeSlice t l c) ty (fun u L' => ∃ a' n' cap' B', u = .slice a' n' cap' ∧ n' = xs.length ∧ Own e size a' n' cap' (flat enc xs) B' ∧ L' = B' ++ L) := by
  unfold mkI at hg
  split at hg
  rotate_left
  · cases hg
  rename_i hb
  simp only [Option.some.injEq] at hg
  subst hg
  obtain ⟨k, rfl⟩ := Int.eq_ofNat_of_zero_le hb.1
  have hk : k ≤ 65536 := by omega
  intro ac w hF hI d pos aft g
  obtain ⟨i, hi, hsz, hby, hzz⟩ := (hT.at hle).info
  obtain ⟨zv, hzv, hzc⟩ := hzz z rfl
  obtain ⟨xt, hxt, hft⟩ := (hT.at hlt).under
  simp only [TD.fits] at hft
  subst hft
  simp only at hsz hby
  have hb' : by' ≤ 4096 := Nat.le_of_ble_eq_true hbs
  have hpos' : 0 < size := by simpa using hpos
  have hmul : by' * k ≤ 4096 * 65536 := Nat.mul_le_mul hb' hk
  have hm2 : ((by' * k : Nat) : Int) ≤ 281474976710656 := by omega
  have hr := run_make (P := P) w t e i zv hxt hi hzv kl kc (k : Int) (k : Int) (Int.natCast_nonneg k) (Int.le_refl _) (by rw [hby, ← Int.natCast_mul]; exact hm2) (by omega)
  simp only [Int.toNat_natCast] at hr ⊢
  have hzl : z.length = size := by rw [hz, he]
  have hmade : madeCells zv.cells (k * i.size) = (repO k z).toArray := by
    rw [hsz, hzc]
    unfold madeCells
    apply Array.ext'
    apply List.ext_getElem?
    intro j
    simp only [Array.toList_map, Array.toList_range, List.getElem?_map]
    rcases Nat.lt_or_ge j (k * size) with h1 | h1
    · rw [List.getElem?_range h1, repO_get z (by omega) k j (by rw [hzl]; exact h1)]
      simp only [Option.map_some, List.size_toArray]
      have h2 : j % z.length < z.length := Nat.mod_lt _ (by omega)
      rw [List.getElem?_eq_getElem h2]
      congr 1
      simp [h2]
    · rw [List.getElem?_eq_none (by simpa using h1), List.getElem?_eq_none (by rw [repO_length, hzl]; exact h1)]
      rfl
  rw [hmade] at hr
  have hfl : (flat enc (List.replicate k y)).length = k * size := by rw [flat_length he, List.length_replicate]
  refine ⟨.value (.slice (some ⟨w.heap.size, 0, none⟩) k k), _, _, _, ?_, .inl rfl, hI.alloc (repO k z) e, _, _, _, [⟨w.heap.size, repO k z, e, (0, 0)⟩], rfl, by simp, ⟨hfl, .inr ⟨w.heap.size, [], [], rfl, Nat.le_refl _, ?_, by simpa using hfl, by rw [flat_replicate, ← hz]; simp⟩⟩, rfl⟩
  · refine (Sem.run_bind _ _ _ _).trans ?_
    show Result.andThen ((Instr.makeSlice t (ac.eval l) (ac.eval c)).run P w) _ = _
    rw [hF.eval hl, hF.eval hc, hr]
    rfl
  · have : maxLen = 9223372036854775807 := by first | rfl | decide
    omega

def eS (x : List UInt8) : List Value := [.string ⟨x.toArray⟩]
def e2 (k : IntKind) (x : Int × Int) : List Value := [.int k x.1, .int k x.2]
theorem e2_len (k : IntKind) (x : Int × Int) : (e2 k x).length = 2 := rfl

/-- 'copy(xs, ys)', xs being our own. -/
def copyL {α : Type} (xs ys : List α) : List α := ys.take xs.length ++ xs.drop ys.length
theorem copyL_length {α : Type} (xs ys : List α) : (copyL xs ys).length = xs.length := by simp [copyL]; omega

theorem chg_copy {α : Type} {enc : α → List Value} (hT : TabOk P T) {s x : Operand} {t u e ty : TypeId} {a a1 : Option Addr} {cap c1 size by' s1 b1 nx ny : Nat} {td : TD} {z1 z2 : Option (List Value)} {xs ys : List α} {B1 : List Blk}
    (hlt : lookT T t = some ⟨.slice e, s1, b1, z1⟩) (hle : lookT T e = some ⟨td, size, by', z2⟩)
    (hs : evO E s = some (.slice a nx cap)) (hx : evO E x = some (.slice a1 ny c1)) (hn : nx = xs.length) (hny : ny = ys.length) (hV : Own e size a nx cap (flat enc xs) B) (hp : L.Perm (B ++ R))
    (hr : Rds w0 A B1 a1 (flat enc ys)) (hB1 : ∃ R, L.Perm (B1 ++ R)) (he : ∀ x, (enc x).length = size) (h1 : ∀ x, allOne (enc x) = true) :
    Chg P w0 A n E L (.call ⟨.builtin .copy, #[s, x], #[t, u]⟩) ty (fun v L' => ∃ B', v = .int .i64 ((min ys.length xs.length : Nat) : Int) ∧ nx = (copyL xs ys).length ∧ Own e size a nx cap (flat enc (copyL xs ys)) B' ∧ L' = B' ++ R) := by
  subst hn; subst hny
  intro ac w hF hI d pos aft g
  obtain ⟨xt, hxt, hft⟩ := (hT.at hlt).under
  simp only [TD.fits] at hft
  subst hft
  have hIp := hI.perm hp
  obtain ⟨k, hk⟩ : ∃ k, k = min ys.length xs.length := ⟨_, rfl⟩
  have hm : Nat.min ys.length xs.length = k := hk.symm
  have hyk : (flat enc ys).take (k * size) = flat enc (ys.take xs.length) := by
    rw [flat_take he]
    congr 1
    rcases Nat.le_total ys.length xs.length with h | h
    · rw [List.take_of_length_le (by omega), List.take_of_length_le h]
    · rw [hk, Nat.min_eq_right h]
  have hyl : (flat enc (ys.take xs.length)).length = k * size := by rw [flat_length he, List.length_take, hk, Nat.min_comm]
  have hfc : (Builtin.firstCells size k (.slice a1 ys.length c1)).run P w = .ok (flat enc (ys.take xs.length)).toArray w := by
    cases a1 with
    | none =>
      have h0 : flat enc ys = [] := by
        rcases List.eq_nil_or_concat (flat enc ys) with h | ⟨l, x, h⟩
        · exact h
        · have := (hr.there (by rw [h]; simp)).1; simp at this
      have : flat enc (ys.take xs.length) = [] := by rw [← hyk, h0]; simp
      rw [this]
      rfl
    | some ad =>
      refine run_firstCells_some (P := P) w size k ad ys.length c1 _ hyl (fun j u hj => ?_)
      rw [← hyk, List.getElem?_take] at hj
      split at hj
      · exact hr.up hI hB1 j u hj
      · cases hj
  have hrun : ∀ w', (Builtin.copy_ #[t, u] ty #[.slice a xs.length cap, .slice a1 ys.length c1]).run P w = .ok (.int .i64 (k : Int)) w' → (execOp ac.eval ⟨d, .call ⟨.builtin .copy, #[s, x], #[t, u]⟩, ty, pos, aft, g⟩).run P w = .ok (.value (.int .i64 (k : Int))) w' := by
    intro w' hr
    rw [exec_builtin]
    have e2 : (#[s, x] : Array Operand).map ac.eval = #[.slice a xs.length cap, .slice a1 ys.length c1] := by simp [hF.eval hs, hF.eval hx]
    rw [e2]
    show ((Builtin.copy_ #[t, u] ty #[.slice a xs.length cap, .slice a1 ys.length c1]) >>= fun x => (pure (Next.value x) : Sem Next)).run P w = _
    rw [Sem.run_bind, hr]
    rfl
  have hsize := fun w => (hT.at hle).size w
  simp only at hsize
  rcases hV.2 with ⟨h2, h3⟩ | ⟨gb, pr, r, rfl, hkc, hcm, hcl, rfl⟩
  · have hxs : xs = [] := List.eq_nil_of_length_eq_zero h2
    subst hxs
    have hk0 : k = 0 := by rw [hk]; simp
    have hc : (Builtin.copy_ #[t, u] ty #[.slice a ([] : List α).length cap, .slice a1 ys.length c1]).run P w = .ok (.int .i64 (k : Int)) w := by
      have hfc' := hfc
      simp only [List.length_nil, List.take_zero] at hfc'
      cases a <;> simp [Builtin.copy_, run_underlying hxt, Builtin.lenOf, hsize, ← hm, goInt] <;> (subst hk0; simp [hfc', flat, storeCells, hk.symm] <;> rfl)
    exact ⟨_, w, _, B ++ R, hrun _ hc, .inl rfl, hIp, B, by rw [hk], by simp [copyL], by simpa [copyL] using hV, rfl⟩
  · have hown := hIp.own _ (List.mem_cons_self ..)
    simp only at hown
    have hfx : (flat enc xs).length = xs.length * size := hV.1
    have hks : k * size ≤ xs.length * size := Nat.mul_le_mul_right _ (by omega)
    have hst := run_storeCells_at P gb pr.length e (flat enc (ys.take xs.length)) 0 (pr ++ (flat enc xs ++ r)).toArray w hown (by simp; omega) (allOne_eq (allOne_flat h1 _))
    simp only [Nat.add_zero] at hst
    have e3 : (pr ++ (flat enc xs ++ r)).take pr.length ++ flat enc (ys.take xs.length) ++ (pr ++ (flat enc xs ++ r)).drop (pr.length + (flat enc (ys.take xs.length)).length) = pr ++ (flat enc (copyL xs ys) ++ r) := by
      rw [hyl, List.drop_length_add_append, List.take_append_of_le_length (Nat.le_refl _), List.take_length, List.drop_append_of_le_length (by omega)]
      unfold copyL
      rw [flat_append]
      have : (flat enc xs).drop (k * size) = flat enc (xs.drop ys.length) := by
        rw [flat_drop he]
        congr 1
        rcases Nat.le_total ys.length xs.length with h | h
        · rw [hk, Nat.min_eq_left h]
        · rw [hk, Nat.min_eq_right h, List.drop_of_length_le (Nat.le_refl _), List.drop_of_length_le h]
      rw [this]
      simp only [List.append_assoc]
    rw [e3] at hst
    have hc : (Builtin.copy_ #[t, u] ty #[.slice (some ⟨gb, pr.length, Option.none⟩) xs.length cap, .slice a1 ys.length c1]).run P w = .ok (.int .i64 (k : Int)) (w.setRow gb (pr ++ (flat enc (copyL xs ys) ++ r)).toArray) := by
      simp [Builtin.copy_, run_underlying hxt, Builtin.lenOf, hsize, hm, goInt]
      simp [hfc, hst]
    refine ⟨_, _, _, _, hrun _ hc, .inl rfl, hIp.setRow Upd.here, [⟨gb, pr ++ (flat enc (copyL xs ys) ++ r), e, (0, 0)⟩], by rw [hk], by rw [copyL_length], ⟨?_, .inr ⟨gb, pr, r, rfl, hkc, hcm, ?_, rfl⟩⟩, rfl⟩
    · rw [flat_length he, copyL_length]
    · rw [List.length_append] at hcl ⊢
      rw [flat_length he, copyL_length]
      omega

theorem rsub_nil {L : List Blk} : ∃ R, L.Perm ([] ++ R) := ⟨L, List.Perm.refl _⟩

/-! ### 'append(b, s...)', s a string -/
/-! ### Storing into an element of our own slice -/
theorem setI_length {α : Type} (xs : List α) (v : Int) (y : α) : (setI xs v y).length = xs.length := by simp [setI]

/-! ### Calls -/
theorem run_call {a : Act} {f : Operand} {args : Array Operand} {ts : Array TypeId} {ty : TypeId} {pos : String} {aft : Array Edge} {dd : Option Tmp} {gg : Option (Nat × Bool)} {g : FuncId} {p q : Array Value} {vs al : List Value} {w : World}
    (hc : ∀ args w, (callFunc g args).run P w = .ok (.enter g args) w) (hF : Fr n E a)
    (hf : evO E f = some (.func (.func g) p q)) (ha : evArgs E args.toList = some vs) (hn : normO (p.toList ++ (vs ++ q.toList)) = some al) :
    (execOp a.eval ⟨dd, .call ⟨.value f, args, ts⟩, ty, pos, aft, gg⟩).run P w = .ok (.enter g al.toArray) w := by
  have : execOp a.eval ⟨dd, .call ⟨.value f, args, ts⟩, ty, pos, aft, gg⟩ = callFunc g ((p ++ args.map a.eval) ++ q) := by
    show (resolve a.eval ⟨.value f, args, ts⟩ ty >>= fun d => invoke d.target d.args) = _
    unfold resolve
    simp only [hF.eval hf]
    rfl
  rw [this, evArgs_arr hF ha, hc]
  rw [normO_eq hn]
  congr 2
  apply Array.ext'
  simp

/-- A call that yields v and leaves what is known. -/
def CallQ (P : Program) (w0 : World) (A : List Nat) (L : List Blk) (g : FuncId) (al : List Value) (v : Value) : Prop :=
  ∀ w, Inv w0 A w L → Calls P g al.toArray w fun e w' => e = .returned v ∧ Inv w0 A w' L
def CallS (P : Program) (w0 : World) (A : List Nat) (L : List Blk) (g : FuncId) (al : List Value) (S : Value → List Blk → Prop) : Prop :=
  ∀ w, Inv w0 A w L → Calls P g al.toArray w fun e w' => ∃ v L', e = .returned v ∧ Inv w0 A w' L' ∧ S v L'

/-- A reader: it turns nothing of pre. -/
abbrev Rd2 (P : Program) (f : FuncId) (args : List Value) (pre : List Blk) (R : World → Prop) (v : Value) : Prop := Sp P f args pre R (fun u L' => u = v ∧ L' = pre)
/-- A contract whose outcome is told as what stands ahead of the rest. -/
abbrev SpD (P : Program) (f : FuncId) (args : List Value) (pre : List Blk) (R : World → Prop) (S : Value → (List Blk → List Blk) → Prop) : Prop :=
  Sp P f args pre R (fun v L' => ∃ D, S v D ∧ L' = D [] ∧ ∀ F, D [] ++ F = D F)

theorem inv_pre {pre F : List Blk} {w : World} (hI : Inv w0 A w L) (hL : L.Perm (pre ++ F)) : Inv w (ids pre) w pre :=
  ⟨rfl, rfl, rfl, Nat.le_refl _, fun _ _ _ => rfl, fun p hp => (hI.perm hL).own p (List.mem_append_left _ hp), by
      have := (hI.perm hL).nodup
      unfold ids at *
      rw [List.map_append, List.nodup_append] at this
      exact this.1, fun p hp => .inl (List.mem_map_of_mem hp)⟩

theorem q_pf {g : FuncId} {al : List Value} {R : World → Prop} {v : Value} (h : Pf P g al R v) (hR : ∀ w, Inv w0 A w L → R w) : CallQ P w0 A L g al v :=
  fun w hI => (h.run w (hR w hI)).mono fun _ _ ⟨he, hI'⟩ => ⟨he, hI.after hI'⟩

theorem q_rd {g : FuncId} {al : List Value} {pre F : List Blk} {R : World → Prop} {v : Value} (h : Rd2 P g al pre R v) (hL : L.Perm (pre ++ F)) (hR : ∀ w, Inv w0 A w L → R w) : CallQ P w0 A L g al v := by
  intro w hI
  refine (h.run w (inv_pre hI hL) (hR w hI)).mono ?_
  rintro e w' ⟨u, L', rfl, hI', rfl, rfl⟩
  exact ⟨rfl, (hI.afterSp hL hI').perm hL.symm⟩

theorem s_sp {g : FuncId} {al : List Value} {pre F : List Blk} {R : World → Prop} {S : Value → (List Blk → List Blk) → Prop} (h : SpD P g al pre R S) (hL : L.Perm (pre ++ F)) (hR : ∀ w, Inv w0 A w L → R w) :
    CallS P w0 A L g al (fun v L' => ∃ D, S v D ∧ L' = D F) := by
  intro w hI
  refine (h.run w (inv_pre hI hL) (hR w hI)).mono ?_
  rintro e w' ⟨u, L', rfl, hI', D, hS, rfl, hD⟩
  exact ⟨u, _, rfl, hI.afterSp hL hI', D, hS, hD F⟩

theorem wl_cq {f : Operand} {args : Array Operand} {ts : Array TypeId} {ty : TypeId} {pos : String} {aft : Array Edge} {d : Nat} {g : FuncId} {p q : Array Value} {vs al : List Value} {v : Value}
    (hc : ∀ args w, (callFunc g args).run P w = .ok (.enter g args) w)
    (hf : evO E f = some (.func (.func g) p q)) (ha : evArgs E args.toList = some vs) (hn : normO (p.toList ++ (vs ++ q.toList)) = some al)
    (h : CallQ P w0 A L g al v) (hd : Nat.blt d n = true) (k : WL P ops Q w0 A n rest ((d, v) :: E) L) :
    WL P ops Q w0 A n (⟨some d, .call ⟨.value f, args, ts⟩, ty, pos, aft, none⟩ :: rest) E L :=
  wl_call (S := fun v' L' => v' = v ∧ L' = L) hc hf ha hn (fun w hI => (h w hI).mono fun _ _ ⟨he, hI'⟩ => ⟨v, L, he, hI', rfl, rfl⟩) hd (fun v' L' ⟨h1, h2⟩ => by subst h1; subst h2; exact k)

theorem wl_cs {f : Operand} {args : Array Operand} {ts : Array TypeId} {ty : TypeId} {pos : String} {aft : Array Edge} {d : Nat} {g : FuncId} {p q : Array Value} {vs al : List Value} {S : Value → List Blk → Prop}
    (hc : ∀ args w, (callFunc g args).run P w = .ok (.enter g args) w)
    (hf : evO E f = some (.func (.func g) p q)) (ha : evArgs E args.toList = some vs) (hn : normO (p.toList ++ (vs ++ q.toList)) = some al)
    (h : CallS P w0 A L g al S) (hd : Nat.blt d n = true) (k : ∀ v L', S v L' → WL P ops Q w0 A n rest ((d, v) :: E) L') :
    WL P ops Q w0 A n (⟨some d, .call ⟨.value f, args, ts⟩, ty, pos, aft, none⟩ :: rest) E L := wl_call hc hf ha hn h hd k

theorem wq_cq {f : Operand} {args : Array Operand} {ts : Array TypeId} {ty : TypeId} {pos : String} {aft : Array Edge} {d : Nat} {g : FuncId} {p q : Array Value} {vs al : List Value} {v : Value}
    (hc : ∀ args w, (callFunc g args).run P w = .ok (.enter g args) w)
    (hf : evO E f = some (.func (.func g) p q)) (ha : evArgs E args.toList = some vs) (hn : normO (p.toList ++ (vs ++ q.toList)) = some al)
    (h : CallQ P w0 A L g al v) (hd : Nat.blt d n = true) (k : WQ P ops Q w0 A n rest ((d, v) :: E) L) :
    WQ P ops Q w0 A n (⟨some d, .call ⟨.value f, args, ts⟩, ty, pos, aft, none⟩ :: rest) E L := by
  unfold WQ at *
  intro a hF
  refine wpQuiet_bare rfl ⟨v, fun w hI => ?_, k _ (hF.put hd)⟩
  unfold Oper.quietAt
  rw [run_call hc hF hf ha hn]
  exact ⟨rfl, h w hI⟩

/-! ### Regions of drawn order, in a listed order -/
def gRun (ops : Array Oper) (E : List (Nat × Value)) : Option (Nat × Bool) → Option Bool
  | none => some true
  | some (j, b) => match (ops[j]?).bind (·.dst) with
    | none => none
    | some t => match lookO E t with
      | none => none
      | some (.bool b0) => some (b0 == b)
      | some _ => some false

theorem gRun_spec {a : Act} (hF : Fr n E a) {d : Option Tmp} {op : Op} {ty : TypeId} {pos : String} {aft : Array Edge} {g : Option (Nat × Bool)} {r : Bool} (h : gRun ops E g = some r) : Region.wanted ⟨d, op, ty, pos, aft, g⟩ (yielded ops a.tmps) = r := by
  unfold gRun at h
  split at h
  · simp only [Option.some.injEq] at h; subst h; rfl
  · rename_i j b
    split at h
    · cases h
    · rename_i t ht
      split at h
      · cases h
      · rename_i b0 hb
        simp only [Option.some.injEq] at h
        subst h
        simp [Region.wanted, yielded_of hF ht hb]
      · rename_i v hv hnb
        simp only [Option.some.injEq] at h
        subst h
        have hy : yielded ops a.tmps j = none := by
          simp only [yielded, ht, Option.bind_some, hF.look t _ hnb]
          split
          · rename_i b heq; simp only [Option.some.injEq] at heq; exact absurd heq (hv b)
          · rfl
        simp [Region.wanted, hy]

/-- wt: of each operation the set (as bits) of those that it waits for, at last. -/
def wtB (wt : List Nat) (i j : Nat) : Bool := Nat.testBit (wt.getD j 0) i

def wtOk (ops : Array Oper) (wt : List Nat) (i : Nat) : Bool :=
  (List.range wt.length).all fun j => !(wtB wt i j) || match ops[j]? with
    | none => false
    | some oj => oj.after.any fun e => Region.binds .any e && (e.on == i || wtB wt i e.on)

def freeT (ops : Array Oper) (late : List Nat) (wt : List Nat) (listed : Array Bool) (i : Nat) : Bool :=
  (Region.ready .any ops listed).contains i && wtOk ops wt i && ((List.range wt.length).all fun k => !(wtB wt i k) || !(listed.getD k true)) && match ops[i]? with
  | none => false
  | some oi => (List.range ops.size).all fun j => j == i || listed.getD j true || wtB wt i j || match ops[j]? with
    | none => true
    | some oj => oi.apart ops oj && !(lateB late j)

theorem wtB_lt {wt : List Nat} {i j : Nat} (h : wtB wt i j = true) : j < wt.length := by
  unfold wtB at h
  rcases Nat.lt_or_ge j wt.length with h' | h'
  · exact h'
  · rw [List.getD_eq_getElem?_getD, List.getElem?_eq_none h'] at h; simp at h

theorem wpAnyK_firstT {S : World → Prop} {late : Nat → Bool} {W : Nat → Bool} {Q : Act → World → Prop} {i : Nat} {oi : Oper} {v : Value} (hi : ops[i]? = some oi) (hsel : ∀ (j : Nat) (o : Oper) cs b, ops[j]? = some o → o.op ≠ .select cs b)
    (hW : ∀ j oj, ops[j]? = some oj → W j = true → ∃ e ∈ oj.after, Region.binds .any e = true ∧ (e.on = i ∨ W e.on = true)) :
    ∀ (fuel : Nat) (listed : Array Bool) (a : Act) (w : World), (∀ k, W k = true → listed.getD k true = false) →
      (∀ j oj, ops[j]? = some oj → j ≠ i → listed.getD j true = false → W j = false → oi.apart ops oj = true ∧ late j = false) →
      i ∈ Region.ready .any ops listed → QuietK P ops S oi v a → S w →
      wpAnyK P .any ops S late Q fuel (listed.setIfInBounds i true) (a.put oi.dst v) w → wpAnyK P .any ops S late Q (fuel + 1) listed a w := by
  intro fuel
  induction fuel with
  | zero =>
    intro listed a w _ _ hr hy hS H
    refine ⟨fun h => (by rw [h] at hr; cases hr), fun j hj => ?_⟩
    by_cases hji : j = i
    · subst hji; exact hy.sOp hi hS ⟨fun _ => hS, H⟩
    · have := ready_mono hj hji
      rw [H.1] at this
      cases this
  | succ fuel ih =>
    intro listed a w hWl hfree hr hy hS H
    refine ⟨fun h => (by rw [h] at hr; cases hr), fun j hj => ?_⟩
    by_cases hji : j = i
    · subst hji; exact hy.sOp hi hS ⟨fun _ => hS, H⟩
    · have h1 := H.2 j (ready_mono hj hji)
      obtain ⟨hjun, oj, hoj, hall⟩ := mem_ready.1 hj
      have hWj : W j = false := by
        rcases Bool.eq_false_or_eq_true (W j) with hw | hw
        · exfalso
          obtain ⟨e, he, hb, hor⟩ := hW j oj hoj hw
          have h1 := hall e he hb
          have key : ∀ k, listed.getD k true = false → listed[k]? = some true → False := fun k h2 h3 => by
            rw [Array.getD_eq_getD_getElem?, h3] at h2; simp at h2
          rcases hor with heq | hw2
          · have h0 := (mem_ready.1 hr).1
            rw [heq] at h1
            rcases Nat.lt_or_ge i listed.size with h' | h'
            · simp [h'] at h0 h1; rw [h0] at h1; cases h1
            · simp [Array.getElem?_eq_none h'] at h1
          · have h0 := hWl e.on hw2
            rcases Nat.lt_or_ge e.on listed.size with h' | h'
            · simp [h'] at h0 h1; rw [h0] at h1; cases h1
            · simp [Array.getElem?_eq_none h'] at h1
        · exact hw
      obtain ⟨hap, hlate⟩ := hfree j oj hoj hji hjun hWj
      have h2 := sOp_put hoj hap (fun cs b => hsel i oi cs b hi) (fun cs b => hsel j oj cs b hoj) hy h1
      have hfree' : ∀ k ok, ops[k]? = some ok → k ≠ i → (listed.setIfInBounds j true).getD k true = false → W k = false → oi.apart ops ok = true ∧ late k = false := fun k ok hk hki hun hno => by
        refine hfree k ok hk hki ?_ hno
        by_cases hjk : j = k
        · subst hjk; exact hjun
        · rw [getD_set_ne true hjk] at hun; exact hun
      have hWl' : ∀ k, W k = true → (listed.setIfInBounds j true).getD k true = false := fun k hk => by
        have hjk : j ≠ k := fun he => by subst he; rw [hWj] at hk; cases hk
        rw [getD_set_ne true hjk]; exact hWl k hk
      refine sOp_mono (fun a' w' h3 => ⟨h3.2.1, ih (listed.setIfInBounds j true) a' w' hWl' hfree' (ready_mono hr (Ne.symm hji)) h3.1 (h3.2.1 hlate) ?_⟩) h2
      rw [Array.setIfInBounds_comm _ _ hji]
      exact h3.2.2

theorem freeT_spec {late wt : List Nat} {listed : Array Bool} {i : Nat} {oi : Oper} (hi : ops[i]? = some oi) (h : freeT ops late wt listed i = true) :
    i ∈ Region.ready .any ops listed ∧ (∀ j oj, ops[j]? = some oj → wtB wt i j = true → ∃ e ∈ oj.after, Region.binds .any e = true ∧ (e.on = i ∨ wtB wt i e.on = true)) ∧ (∀ k, wtB wt i k = true → listed.getD k true = false) ∧
    ∀ j oj, ops[j]? = some oj → j ≠ i → listed.getD j true = false → wtB wt i j = false → oi.apart ops oj = true ∧ lateB late j = false := by
  unfold freeT at h
  simp only [hi, Bool.and_eq_true] at h
  obtain ⟨⟨⟨h1, h2⟩, h3⟩, h4⟩ := h
  refine ⟨by simpa using h1, fun j oj hj hw => ?_, fun k hk => ?_, fun j oj hj hji hl hw => ?_⟩
  · have := List.all_eq_true.1 h2 j (List.mem_range.2 (wtB_lt hw))
    simp only [hw, hj, Bool.not_true, Bool.false_or] at this
    obtain ⟨e, he, hb⟩ := Array.any_eq_true'.1 this
    simp only [Bool.and_eq_true, Bool.or_eq_true, beq_iff_eq] at hb
    exact ⟨e, he, hb.1, hb.2⟩
  · have := List.all_eq_true.1 h3 k (List.mem_range.2 (wtB_lt hk))
    simpa [hk] using this
  · have hjs : j < ops.size := (Array.getElem?_eq_some_iff.1 hj).1
    have := List.all_eq_true.1 h4 j (List.mem_range.2 hjs)
    simpa [hj, hl, hji, hw] using this

def ordB (ops : Array Oper) (eff late wt : List Nat) : List Nat → List Nat → Bool
  | _, [] => true
  | dn, i :: todo => Nat.blt dn.length ops.size && (bif eff.contains i then (Region.ready .any ops (marked ops.size dn) == [i]) else freeT ops late wt (marked ops.size dn) i) && ordB ops eff late wt (i :: dn) todo

/-- A region of drawn order, its operations taken in the order todo; Ls: known throughout (but behind the late ones). -/
def WK2 (P : Program) (ops : Array Oper) (Q : Exit → Act → World → Prop) (w0 : World) (A : List Nat) (n : Nat) (Ls : List Blk) (eff late wt dn todo : List Nat) (E : List (Nat × Value)) (L : List Blk) : Prop :=
  Region.noSelect ops = true → ordB ops eff late wt dn todo = true → ∀ a w, Fr n E a → Inv w0 A w L → ∀ fuel, ops.size ≤ fuel + dn.length →
    wpAnyK P .any ops (fun w => Inv w0 A w Ls) (lateB late) (fun a' w' => Q .normal a' w') fuel (marked ops.size dn) a w

/-- The same, where the operation i is the one that is taken now. -/
def WKf (P : Program) (ops : Array Oper) (Q : Exit → Act → World → Prop) (w0 : World) (A : List Nat) (n : Nat) (Ls : List Blk) (eff late wt dn : List Nat) (i : Nat) (todo : List Nat) (E : List (Nat × Value)) (L : List Blk) : Prop :=
  Region.noSelect ops = true → ordB ops eff late wt (i :: dn) todo = true → ∀ a w, Fr n E a → Inv w0 A w L → ∀ fuel, ops.size ≤ fuel + 1 + dn.length →
    sOp P ops i (fun a' w' => (lateB late i = false → Inv w0 A w' Ls) ∧ wpAnyK P .any ops (fun w => Inv w0 A w Ls) (lateB late) (fun a' w' => Q .normal a' w') fuel ((marked ops.size dn).setIfInBounds i true) a' w') a w

variable {Ls : List Blk} {eff late wt dn todo : List Nat}

theorem k_of_f {i : Nat} (he : eff.contains i = true) (h : WKf P ops Q w0 A n Ls eff late wt dn i todo E L) : WK2 P ops Q w0 A n Ls eff late wt dn (i :: todo) E L := by
  intro hns hord a w hF hI fuel hfuel
  simp only [ordB, he, cond_true, Bool.and_eq_true, beq_iff_eq] at hord
  obtain ⟨⟨hb, hr⟩, hord'⟩ := hord
  have hb' : dn.length < ops.size := by simpa using hb
  obtain ⟨fuel, rfl⟩ : ∃ f, fuel = f + 1 := ⟨fuel - 1, by omega⟩
  exact wpAnyK_only hr (h hns hord' a w hF hI fuel (by omega))

/-- Two effects in no order: either may be the next. -/
theorem k_two {i j : Nat} {t1 t2 : List Nat} (hb : Nat.blt dn.length ops.size = true) (hr : (Region.ready .any ops (marked ops.size dn) == [i, j]) = true) (o1 : ordB ops eff late wt (i :: dn) t1 = true) (o2 : ordB ops eff late wt (j :: dn) t2 = true)
    (h1 : WKf P ops Q w0 A n Ls eff late wt dn i t1 E L) (h2 : WKf P ops Q w0 A n Ls eff late wt dn j t2 E L) : WK2 P ops Q w0 A n Ls eff late wt dn [] E L := by
  intro hns _ a w hF hI fuel hfuel
  have hb' : dn.length < ops.size := by simpa using hb
  have hr' := eq_of_beq hr
  obtain ⟨fuel, rfl⟩ : ∃ f, fuel = f + 1 := ⟨fuel - 1, by omega⟩
  refine ⟨fun h => (by rw [h] at hr'; cases hr'), fun k hk => ?_⟩
  rw [hr'] at hk
  simp only [List.mem_cons, List.not_mem_nil, or_false] at hk
  rcases hk with rfl | rfl
  · exact h1 hns o1 a w hF hI fuel (by omega)
  · exact h2 hns o2 a w hF hI fuel (by omega)

theorem wc_k2 {id : Nat} {l : List Oper} (eff late wt todo : List Nat) (hm : P.follows .mixedOrders = true) (hs : Region.noSelect l.toArray = true) (ho : ordB l.toArray eff late wt [] todo = true)
    (h : WK2 P l.toArray Q w0 A n Ls eff late wt [] todo E L) : WC P Q w0 A n (.region id l.toArray true) E L := by
  unfold WC
  intro a w hF hI
  refine wp_region_any hm (wpAny_of_K (S := fun w => Inv w0 A w Ls) (late := lateB late) (Q := fun a' w' => Q .normal a' w') (fun _ _ h => h) _ _ _ _ ?_)
  exact h hs ho a _ hF (hI.drew _) _ (by simp)

theorem k_val {i d : Nat} {op : Op} {ty : TypeId} {pos : String} {aft : Array Edge} {v : Value} {g : Option (Nat × Bool)} (ho : ops[i]? = some ⟨some d, op, ty, pos, aft, g⟩) (hg : gRun ops E g = some true) (he : eff.contains i = false)
    (hL : ∃ R, L.Perm (Ls ++ R)) (hv : Val P w0 A n E Ls op ty v) (hd : Nat.blt d n = true) (h : WK2 P ops Q w0 A n Ls eff late wt (i :: dn) todo ((d, v) :: E) L) : WK2 P ops Q w0 A n Ls eff late wt dn (i :: todo) E L := by
  intro hns hord a w hF hI fuel hfuel
  simp only [ordB, he, cond_false, Bool.and_eq_true] at hord
  obtain ⟨⟨hb, hfree⟩, hord'⟩ := hord
  obtain ⟨hr, hw1, hw2, hf⟩ := freeT_spec ho hfree
  have hb' : dn.length < ops.size := by simpa using hb
  obtain ⟨fuel, rfl⟩ : ∃ f, fuel = f + 1 := ⟨fuel - 1, by omega⟩
  refine wpAnyK_firstT (v := v) ho (Region.noSelect_spec hns) hw1 fuel _ a w hw2 hf hr (.inl ⟨gRun_spec hF hg, fun w hw => ?_⟩) (hI.sub hL) ?_
  · rw [hv a w hF hw]; exact ⟨rfl, rfl⟩
  · exact h hns hord' _ w (hF.put hd) hI fuel (by simp only [List.length_cons]; omega)

theorem k_cut {α : Type} {enc : α → List Value} {t e : TypeId} {s1 b1 size by' : Nat} {z1 z : Option (List Value)} {td : TD} {x : Operand} {lo hi mx : Option Operand} {a : Option Addr} {cap nx : Nat} {q j m : Int} {ty : TypeId} {xs ys : List α}
    {i d : Nat} {pos : String} {aft : Array Edge} {g : Option (Nat × Bool)} (ho : ops[i]? = some ⟨some d, .slice t x lo hi mx, ty, pos, aft, g⟩) (hgr : gRun ops E g = some true) (hef : eff.contains i = false)
    (hL : ∃ R, L.Perm (Ls ++ R)) (hT : TabOk P T) (hlt : lookT T t = some ⟨.slice e, s1, b1, z1⟩) (hle : lookT T e = some ⟨td, size, by', z⟩)
    (hx : evO E x = some (.slice a nx cap)) (hn : nx = xs.length) (hth : flat enc xs ≠ [] → a.isSome = true) (he : ∀ x, (enc x).length = size) (hcap : nx ≤ cap)
    (hl : (lo = none ∧ q = 0) ∨ ∃ y k, lo = some y ∧ evO E y = some (.int k q)) (hh : (hi = none ∧ j = nx) ∨ ∃ y k, hi = some y ∧ evO E y = some (.int k j))
    (hm : (mx = none ∧ m = cap) ∨ ∃ y k, mx = some y ∧ evO E y = some (.int k m)) (hhm : hi = none → mx = none) (hjm : j ≤ m ∧ m ≤ cap) (hg : cutI xs q j = some ys) (hd : Nat.blt d n = true)
    (k : CutK a nx cap e size enc xs ys mx m q j (fun v => WK2 P ops Q w0 A n Ls eff late wt (i :: dn) todo ((d, v) :: E) L)) : WK2 P ops Q w0 A n Ls eff late wt dn (i :: todo) E L := by
  obtain ⟨a', n', cap', h1, h2, h3, h4, h5, h6⟩ := val_cut (P := P) (w0 := w0) (A := A) (n := n) (L := Ls) (ty := ty) hT hlt hle hx hn hth he hcap hl hh hm hhm hjm hg
  exact k_val ho hgr hef hL h3 hd (k a' n' cap' h1 h2 h4 h5 h6)

theorem k_skip {i d : Nat} {op : Op} {ty : TypeId} {pos : String} {aft : Array Edge} {g : Option (Nat × Bool)} (ho : ops[i]? = some ⟨some d, op, ty, pos, aft, g⟩) (hg : gRun ops E g = some false)
    (hL : ∃ R, L.Perm (Ls ++ R)) (hd : Nat.blt d n = true) (h : WK2 P ops Q w0 A n Ls eff late wt (i :: dn) todo ((d, undef) :: E) L) : WK2 P ops Q w0 A n Ls eff late wt dn (i :: todo) E L := by
  intro hns hord a w hF hI fuel hfuel
  simp only [ordB, Bool.and_eq_true] at hord
  obtain ⟨⟨hb, hfree⟩, hord'⟩ := hord
  have hb' : dn.length < ops.size := by simpa using hb
  obtain ⟨fuel, rfl⟩ : ∃ f, fuel = f + 1 := ⟨fuel - 1, by omega⟩
  cases he : eff.contains i
  · rw [he] at hfree
    obtain ⟨hr, hw1, hw2, hf⟩ := freeT_spec ho hfree
    refine wpAnyK_firstT (v := undef) ho (Region.noSelect_spec hns) hw1 fuel _ a w hw2 hf hr (.inr ⟨gRun_spec hF hg, rfl⟩) (hI.sub hL) ?_
    exact h hns hord' _ w (hF.put hd) hI fuel (by simp only [List.length_cons]; omega)
  · rw [he] at hfree
    simp only [cond_true, beq_iff_eq] at hfree
    refine wpAnyK_only hfree ?_
    unfold sOp
    simp only [ho]
    rw [if_neg (by rw [gRun_spec hF hg]; decide)]
    exact ⟨fun _ => hI.sub hL, h hns hord' _ w (hF.put hd) hI fuel (by simp only [List.length_cons]; omega)⟩

theorem k_three {i j k : Nat} {t1 t2 t3 : List Nat} (hb : Nat.blt dn.length ops.size = true) (hr : (Region.ready .any ops (marked ops.size dn) == [i, j, k]) = true) (o1 : ordB ops eff late wt (i :: dn) t1 = true) (o2 : ordB ops eff late wt (j :: dn) t2 = true) (o3 : ordB ops eff late wt (k :: dn) t3 = true)
    (h1 : WKf P ops Q w0 A n Ls eff late wt dn i t1 E L) (h2 : WKf P ops Q w0 A n Ls eff late wt dn j t2 E L) (h3 : WKf P ops Q w0 A n Ls eff late wt dn k t3 E L) : WK2 P ops Q w0 A n Ls eff late wt dn [] E L := by
  intro hns _ a w hF hI fuel hfuel
  have hb' : dn.length < ops.size := by simpa using hb
  have hr' := eq_of_beq hr
  obtain ⟨fuel, rfl⟩ : ∃ f, fuel = f + 1 := ⟨fuel - 1, by omega⟩
  refine ⟨fun h => (by rw [h] at hr'; cases hr'), fun q hk => ?_⟩
  rw [hr'] at hk
  simp only [List.mem_cons, List.not_mem_nil, or_false] at hk
  rcases hk with rfl | rfl | rfl
  · exact h1 hns o1 a w hF hI fuel (by omega)
  · exact h2 hns o2 a w hF hI fuel (by omega)
  · exact h3 hns o3 a w hF hI fuel (by omega)

theorem k_chgf {i d : Nat} {op : Op} {ty : TypeId} {pos : String} {aft : Array Edge} {g : Option (Nat × Bool)} {S : Value → List Blk → Prop} (ho : ops[i]? = some ⟨some d, op, ty, pos, aft, g⟩) (hg : gRun ops E g = some true)
    (hv : Chg P w0 A n E L op ty S) (hd : Nat.blt d n = true) (hL : lateB late i = true ∨ ∀ v L', S v L' → ∃ R, L'.Perm (Ls ++ R))
    (h : ∀ v L', S v L' → WK2 P ops Q w0 A n Ls eff late wt (i :: dn) todo ((d, v) :: E) L') : WKf P ops Q w0 A n Ls eff late wt dn i todo E L := by
  intro hns hord' a w hF hI fuel hfuel
  unfold sOp
  simp only [ho]
  rw [if_pos (gRun_spec hF hg)]
  obtain ⟨nx, w', v, L', hrun, hn, hI', hS⟩ := hv a w hF hI (some d) pos aft g
  rw [hrun]
  have hk : (lateB late i = false → Inv w0 A w' Ls) ∧ wpAnyK P .any ops (fun w => Inv w0 A w Ls) (lateB late) (fun a' w' => Q .normal a' w') fuel ((marked ops.size dn).setIfInBounds i true) (a.put (some d) v) w' :=
    ⟨fun hl => by rcases hL with hL | hL; (rw [hl] at hL; cases hL); exact hI'.sub (hL v L' hS), h v L' hS hns hord' _ w' (hF.put hd) hI' fuel (by simp only [List.length_cons]; omega)⟩
  rcases hn with rfl | ⟨rfl, rfl⟩ <;> exact hk

theorem k_chg {i d : Nat} {op : Op} {ty : TypeId} {pos : String} {aft : Array Edge} {g : Option (Nat × Bool)} {S : Value → List Blk → Prop} (ho : ops[i]? = some ⟨some d, op, ty, pos, aft, g⟩) (hg : gRun ops E g = some true) (he : eff.contains i = true)
    (hv : Chg P w0 A n E L op ty S) (hd : Nat.blt d n = true) (hL : lateB late i = true ∨ ∀ v L', S v L' → ∃ R, L'.Perm (Ls ++ R))
    (h : ∀ v L', S v L' → WK2 P ops Q w0 A n Ls eff late wt (i :: dn) todo ((d, v) :: E) L') : WK2 P ops Q w0 A n Ls eff late wt dn (i :: todo) E L :=
  k_of_f he (k_chgf ho hg hv hd hL h)

theorem k_chg0f {i : Nat} {op : Op} {ty : TypeId} {pos : String} {aft : Array Edge} {g : Option (Nat × Bool)} {S : Value → List Blk → Prop} (ho : ops[i]? = some ⟨none, op, ty, pos, aft, g⟩) (hg : gRun ops E g = some true)
    (hv : Chg P w0 A n E L op ty S) (hL : lateB late i = true ∨ ∀ v L', S v L' → ∃ R, L'.Perm (Ls ++ R))
    (h : ∀ v L', S v L' → WK2 P ops Q w0 A n Ls eff late wt (i :: dn) todo E L') : WKf P ops Q w0 A n Ls eff late wt dn i todo E L := by
  intro hns hord' a w hF hI fuel hfuel
  unfold sOp
  simp only [ho]
  rw [if_pos (gRun_spec hF hg)]
  obtain ⟨nx, w', v, L', hrun, hn, hI', hS⟩ := hv a w hF hI none pos aft g
  rw [hrun]
  have hk : (lateB late i = false → Inv w0 A w' Ls) ∧ wpAnyK P .any ops (fun w => Inv w0 A w Ls) (lateB late) (fun a' w' => Q .normal a' w') fuel ((marked ops.size dn).setIfInBounds i true) a w' :=
    ⟨fun hl => by rcases hL with hL | hL; (rw [hl] at hL; cases hL); exact hI'.sub (hL v L' hS), h v L' hS hns hord' _ w' hF hI' fuel (by simp only [List.length_cons]; omega)⟩
  rcases hn with rfl | ⟨rfl, rfl⟩ <;> exact hk

theorem k_chg0 {i : Nat} {op : Op} {ty : TypeId} {pos : String} {aft : Array Edge} {g : Option (Nat × Bool)} {S : Value → List Blk → Prop} (ho : ops[i]? = some ⟨none, op, ty, pos, aft, g⟩) (hg : gRun ops E g = some true) (he : eff.contains i = true)
    (hv : Chg P w0 A n E L op ty S) (hL : lateB late i = true ∨ ∀ v L', S v L' → ∃ R, L'.Perm (Ls ++ R))
    (h : ∀ v L', S v L' → WK2 P ops Q w0 A n Ls eff late wt (i :: dn) todo E L') : WK2 P ops Q w0 A n Ls eff late wt dn (i :: todo) E L :=
  k_of_f he (k_chg0f ho hg hv hL h)

theorem k_csf {i d : Nat} {f : Operand} {args : Array Operand} {ts : Array TypeId} {ty : TypeId} {pos : String} {aft : Array Edge} {gg : Option (Nat × Bool)} {g : FuncId} {p q : Array Value} {vs al : List Value} {S : Value → List Blk → Prop}
    (ho : ops[i]? = some ⟨some d, .call ⟨.value f, args, ts⟩, ty, pos, aft, gg⟩) (hg : gRun ops E gg = some true)
    (hc : ∀ args w, (callFunc g args).run P w = .ok (.enter g args) w)
    (hf : evO E f = some (.func (.func g) p q)) (ha : evArgs E args.toList = some vs) (hn : normO (p.toList ++ (vs ++ q.toList)) = some al)
    (hk : CallS P w0 A L g al S) (hd : Nat.blt d n = true) (hL : lateB late i = true ∨ ∀ v L', S v L' → ∃ R, L'.Perm (Ls ++ R))
    (h : ∀ v L', S v L' → WK2 P ops Q w0 A n Ls eff late wt (i :: dn) todo ((d, v) :: E) L') : WKf P ops Q w0 A n Ls eff late wt dn i todo E L := by
  intro hns hord' a w hF hI fuel hfuel
  unfold sOp
  simp only [ho]
  rw [if_pos (gRun_spec hF hg), run_call hc hF hf ha hn]
  show Calls P g al.toArray w _
  refine (hk w hI).mono fun e w' ⟨v, L', hv, hI', hS⟩ => ⟨v, hv, ?_, ?_⟩
  · intro hl
    rcases hL with hL | hL
    · rw [hl] at hL; cases hL
    · exact hI'.sub (hL v L' hS)
  · exact h v L' hS hns hord' _ w' (hF.put hd) hI' fuel (by simp only [List.length_cons]; omega)

theorem k_cs {i d : Nat} {f : Operand} {args : Array Operand} {ts : Array TypeId} {ty : TypeId} {pos : String} {aft : Array Edge} {gg : Option (Nat × Bool)} {g : FuncId} {p q : Array Value} {vs al : List Value} {S : Value → List Blk → Prop}
    (ho : ops[i]? = some ⟨some d, .call ⟨.value f, args, ts⟩, ty, pos, aft, gg⟩) (hg : gRun ops E gg = some true) (he : eff.contains i = true)
    (hc : ∀ args w, (callFunc g args).run P w = .ok (.enter g args) w)
    (hf : evO E f = some (.func (.func g) p q)) (ha : evArgs E args.toList = some vs) (hn : normO (p.toList ++ (vs ++ q.toList)) = some al)
    (hk : CallS P w0 A L g al S) (hd : Nat.blt d n = true) (hL : lateB late i = true ∨ ∀ v L', S v L' → ∃ R, L'.Perm (Ls ++ R))
    (h : ∀ v L', S v L' → WK2 P ops Q w0 A n Ls eff late wt (i :: dn) todo ((d, v) :: E) L') : WK2 P ops Q w0 A n Ls eff late wt dn (i :: todo) E L :=
  k_of_f he (k_csf ho hg hc hf ha hn hk hd hL h)

theorem k_cqf {i d : Nat} {f : Operand} {args : Array Operand} {ts : Array TypeId} {ty : TypeId} {pos : String} {aft : Array Edge} {gg : Option (Nat × Bool)} {g : FuncId} {p q : Array Value} {vs al : List Value} {v : Value}
    (ho : ops[i]? = some ⟨some d, .call ⟨.value f, args, ts⟩, ty, pos, aft, gg⟩) (hg : gRun ops E gg = some true)
    (hc : ∀ args w, (callFunc g args).run P w = .ok (.enter g args) w)
    (hf : evO E f = some (.func (.func g) p q)) (ha : evArgs E args.toList = some vs) (hn : normO (p.toList ++ (vs ++ q.toList)) = some al)
    (hk : CallQ P w0 A L g al v) (hd : Nat.blt d n = true) (hL : ∃ R, L.Perm (Ls ++ R))
    (h : WK2 P ops Q w0 A n Ls eff late wt (i :: dn) todo ((d, v) :: E) L) : WKf P ops Q w0 A n Ls eff late wt dn i todo E L :=
  k_csf (S := fun u L' => u = v ∧ L' = L) ho hg hc hf ha hn (fun w hI => (hk w hI).mono fun _ _ ⟨h1, h2⟩ => ⟨v, L, h1, h2, rfl, rfl⟩) hd (.inr fun u L' ⟨_, h2⟩ => by subst h2; exact hL)
    (fun u L' ⟨h1, h2⟩ => by subst h1; subst h2; exact h)

theorem k_cq {i d : Nat} {f : Operand} {args : Array Operand} {ts : Array TypeId} {ty : TypeId} {pos : String} {aft : Array Edge} {gg : Option (Nat × Bool)} {g : FuncId} {p q : Array Value} {vs al : List Value} {v : Value}
    (ho : ops[i]? = some ⟨some d, .call ⟨.value f, args, ts⟩, ty, pos, aft, gg⟩) (hg : gRun ops E gg = some true) (he : eff.contains i = true)
    (hc : ∀ args w, (callFunc g args).run P w = .ok (.enter g args) w)
    (hf : evO E f = some (.func (.func g) p q)) (ha : evArgs E args.toList = some vs) (hn : normO (p.toList ++ (vs ++ q.toList)) = some al)
    (hk : CallQ P w0 A L g al v) (hd : Nat.blt d n = true) (hL : ∃ R, L.Perm (Ls ++ R))
    (h : WK2 P ops Q w0 A n Ls eff late wt (i :: dn) todo ((d, v) :: E) L) : WK2 P ops Q w0 A n Ls eff late wt dn (i :: todo) E L :=
  k_cs (S := fun u L' => u = v ∧ L' = L) ho hg he hc hf ha hn (fun w hI => (hk w hI).mono fun _ _ ⟨h1, h2⟩ => ⟨v, L, h1, h2, rfl, rfl⟩) hd (.inr fun u L' ⟨_, h2⟩ => by subst h2; exact hL)
    (fun u L' ⟨h1, h2⟩ => by subst h1; subst h2; exact h)

theorem k_end (he : (Region.ready .any ops (marked ops.size dn)).isEmpty = true) (h : WX Q w0 A n .normal E L) : WK2 P ops Q w0 A n Ls eff late wt dn [] E L := by
  unfold WX at h
  intro hns hord a w hF hI fuel _
  exact wpAnyK_end (by simpa using he) (h a w hF hI)

theorem k_split {t : Nat} {b : Bool} (hd : lookO E t = some (.bool b))
    (k1 : b = true → WK2 P ops Q w0 A n Ls eff late wt dn todo ((t, .bool true) :: E) L) (k2 : b = false → WK2 P ops Q w0 A n Ls eff late wt dn todo ((t, .bool false) :: E) L) : WK2 P ops Q w0 A n Ls eff late wt dn todo E L := by
  intro hns hord a w hF hI
  cases b
  · exact k2 rfl hns hord a w (hF.over hd) hI
  · exact k1 rfl hns hord a w (hF.over hd) hI

theorem wl_split {t : Nat} {b : Bool} (hd : lookO E t = some (.bool b))
    (k1 : b = true → WL P ops Q w0 A n rest ((t, .bool true) :: E) L) (k2 : b = false → WL P ops Q w0 A n rest ((t, .bool false) :: E) L) : WL P ops Q w0 A n rest E L := by
  unfold WL at *
  intro a w hF hI
  cases b
  · exact k2 rfl a w (hF.over hd) hI
  · exact k1 rfl a w (hF.over hd) hI

theorem wq_split {t : Nat} {b : Bool} (hd : lookO E t = some (.bool b))
    (k1 : b = true → WQ P ops Q w0 A n rest ((t, .bool true) :: E) L) (k2 : b = false → WQ P ops Q w0 A n rest ((t, .bool false) :: E) L) : WQ P ops Q w0 A n rest E L := by
  unfold WQ at *
  intro a hF
  cases b
  · exact k2 rfl a (hF.over hd)
  · exact k1 rfl a (hF.over hd)

/-- A guarded operation that is run, or not. -/
theorem wl_run {d : Option Tmp} {op : Op} {ty : TypeId} {pos : String} {aft : Array Edge} {g : Option (Nat × Bool)} (hg : gRun ops E g = some true)
    (k : WL P ops Q w0 A n (⟨d, op, ty, pos, #[], none⟩ :: rest) E L) : WL P ops Q w0 A n (⟨d, op, ty, pos, aft, g⟩ :: rest) E L := by
  unfold WL at *
  intro a w hF hI
  have := k a w hF hI
  unfold wpList at this ⊢
  rw [if_pos (by simp [Region.wanted])] at this
  rw [if_pos (gRun_spec hF hg)]
  exact this
theorem wl_skip {d : Nat} {op : Op} {ty : TypeId} {pos : String} {aft : Array Edge} {g : Option (Nat × Bool)} (hg : gRun ops E g = some false) (hd : Nat.blt d n = true)
    (k : WL P ops Q w0 A n rest ((d, undef) :: E) L) : WL P ops Q w0 A n (⟨some d, op, ty, pos, aft, g⟩ :: rest) E L := by
  unfold WL at *
  intro a w hF hI
  unfold wpList
  rw [if_neg (by rw [gRun_spec hF hg]; decide)]
  exact k _ _ (hF.put hd) hI
theorem wq_run {d : Option Tmp} {op : Op} {ty : TypeId} {pos : String} {aft : Array Edge} {g : Option (Nat × Bool)} (hg : gRun ops E g = some true)
    (k : WQ P ops Q w0 A n (⟨d, op, ty, pos, #[], none⟩ :: rest) E L) : WQ P ops Q w0 A n (⟨d, op, ty, pos, aft, g⟩ :: rest) E L := by
  unfold WQ at *
  intro a hF
  have := k a hF
  unfold wpQuiet at this ⊢
  rw [if_pos (by simp [Region.wanted])] at this
  rw [if_pos (gRun_spec hF hg)]
  exact this
theorem wq_skip {d : Nat} {op : Op} {ty : TypeId} {pos : String} {aft : Array Edge} {g : Option (Nat × Bool)} (hg : gRun ops E g = some false) (hd : Nat.blt d n = true)
    (k : WQ P ops Q w0 A n rest ((d, undef) :: E) L) : WQ P ops Q w0 A n (⟨some d, op, ty, pos, aft, g⟩ :: rest) E L := by
  unfold WQ at *
  intro a hF
  unfold wpQuiet
  rw [if_neg (by rw [gRun_spec hF hg]; decide)]
  exact k _ (hF.put hd)

/-! ### Ends, joins -/
theorem wx_spD {fn : Func} (hT : TabOk P T) {S : Value → (List Blk → List Blk) → Prop} {rs : List ResultVar} {vs : List Value} {e : Exit} {D : List Blk → List Blk} (he : e = .ret ∨ e = .normal) (hr : fn.results = rs.toArray) (h : Res T E L rs vs)
    (hS : S (resV vs) D) (hD : ∀ F, D [] ++ F = D F) (hL : ∃ R, L.Perm (D [] ++ R)) :
    WX (bodyPost P fn (fun e w' => ∃ v L', e = .returned v ∧ Inv w0 A w' L' ∧ ∃ D, S v D ∧ L' = D [] ∧ ∀ F, D [] ++ F = D F)) w0 A n e E L :=
  wx_sp (S := fun v L' => ∃ D, S v D ∧ L' = D [] ∧ ∀ F, D [] ++ F = D F) hT he hr h hL ⟨D, hS, rfl, hD⟩

def Mid (J : List (Nat × Value) → List Blk → Prop) (w0 : World) (A : List Nat) (n : Nat) (a : Act) (w : World) : Prop := ∃ E L, J E L ∧ Fr n E a ∧ Inv w0 A w L

theorem wc_join {x y : Code} (J : List (Nat × Value) → List Blk → Prop) (hx : WC P (Exit.then (Mid J w0 A n) Q) w0 A n x E L) (hy : ∀ E L, J E L → WC P Q w0 A n y E L) : WC P Q w0 A n (.seq x y) E L := by
  unfold WC at *
  intro a w hF hI
  refine wp_seq (Code.wp_mono ?_ (hx a w hF hI))
  intro e a' w' h
  cases e <;> first
    | exact h
    | (obtain ⟨E1, L1, hJ, hF1, hI1⟩ := h
       exact hy E1 L1 hJ a' w' hF1 hI1)

theorem wc_join2 {x y : Code} (J : List (Nat × Value) → List Blk → Prop) (hx : WC P (Exit.then (Mid J w0 A n) Q) w0 A n x E L) (hy : ∀ E L, J E L → WC P Q w0 A n y E L) : WC P (Exit.then (y.wp P Q) Q) w0 A n x E L := by
  unfold WC at *
  intro a w hF hI
  refine Code.wp_mono ?_ (hx a w hF hI)
  intro e a' w' h
  cases e <;> first
    | exact h
    | (obtain ⟨E1, L1, hJ, hF1, hI1⟩ := h
       exact hy E1 L1 hJ a' w' hF1 hI1)

theorem wx_join {J : List (Nat × Value) → List Blk → Prop} (hJ : J E' L') (hE : Agree E E') (hL : ∃ R, L.Perm (L' ++ R)) : WX (Exit.then (Mid J w0 A n) Q) w0 A n .normal E L := by
  unfold WX
  intro a w hF hI
  exact ⟨E', L', hJ, hF.agree hE, hI.sub hL⟩

end

attribute [irreducible] WK2 WKf

/-! ### Arrays in blocks, at an open place -/
def Arr.set {α : Type} {m : Nat} (a : Arr α m) (v : Int) (y : α) : Arr α m := ⟨setI a.1 v y, by rw [setI_length]; exact a.2⟩
def Arr.rep {α : Type} (m : Nat) (y : α) : Arr α m := ⟨List.replicate m y, List.length_replicate ..⟩

theorem c_np {α : Type} {pre F : List α} : pre ++ F = pre ++ (F ++ []) := by rw [List.append_nil]
section
variable {P : Program} {T : List (Nat × TI)} {E : List (Nat × Value)} {n : Nat} {w0 : World} {A : List Nat} {L B L' : List Blk}

/-- The address of an element of an array in a block. -/
theorem val_xa {α : Type} {m : Nat} (hT : TabOk P T) {t e : TypeId} {s1 b1 size by' : Nat} {z1 z : Option (List Value)} {td : TD} {x i : Operand} {b o : Nat} {k : IntKind} {v : Int} {ty : TypeId} {a : Arr α m} {y : α}
    (hlt : lookT T t = some ⟨.arr m e, s1, b1, z1⟩) (hle : lookT T e = some ⟨td, size, by', z⟩) (hx : evO E x = some (.pointer (some ⟨b, o, none⟩))) (hi : evO E i = some (.int k v)) (hg : getI a.1 v = some y) :
    Val P w0 A n E L (.indexAddr t x i) ty (.pointer (some ⟨b, o + v.toNat * size + 0, none⟩)) := by
  obtain ⟨h0, hy⟩ := getI_spec hg
  have hj := (List.getElem?_eq_some_iff.1 hy).1
  rw [a.2] at hj
  exact val_ia (j := v.toNat) hT hlt hle hx hi (Int.toNat_of_nonneg h0).symm (by simpa using hj) rfl

/-- Loading a part of an element of it. -/
theorem val_xl {α : Type} {enc : α → List Value} (hT : TabOk P T) {t : TypeId} {x : Operand} {b o q size : Nat} {c pre post : List Value} {t' : TypeId} {fz : Nat × Nat} {v : Int} {ty : TypeId} {u : Value} {xs : List α} {y : α}
    (hx : evO E x = some (.pointer (some ⟨b, o + v.toNat * size + q, none⟩))) (hm : (⟨b, c, t', fz⟩ : Blk) ∈ L) (hc : c = pre ++ (flat enc xs ++ post)) (ho : pre.length = o) (he : ∀ x, (enc x).length = size) (hg : getI xs v = some y) (hp : partV T t (enc y) q = some u) :
    Val P w0 A n E L (.load t x) ty u := by
  subst ho
  subst hc
  intro a' w hF hI d pos aft g
  obtain ⟨h0, hy⟩ := getI_spec hg
  refine run_v ?_
  rw [hF.eval hx]
  unfold Instr.loadAt
  simp only [Instr.sureAddr, Sem.run_bind, Sem.run_pure, Result.andThen]
  have ha : (⟨b, pre.length + v.toNat * size + q, none⟩ : Addr) = (⟨b, pre.length + v.toNat * size, none⟩ : Addr).add q := by rw [Addr.add_lit]
  rw [ha]
  refine run_loadVar_add hT (c := enc y) (fun i u hi => ?_) hp
  rw [Addr.add_lit, cell_of (hI.own _ hm)]
  have hfl : v.toNat * size + i < (flat enc xs).length := (List.getElem?_eq_some_iff.1 (flat_get he hy hi)).1
  have h2 := flat_get he hy hi
  simp only [List.getElem?_toArray]
  rw [Nat.add_assoc, List.getElem?_append_right (by omega), List.getElem?_append_left (by omega), ← h2]
  congr 1; omega

/-- Storing a part of what lies ahead of it. -/
theorem chg_storep (hT : TabOk P T) {t : TypeId} {x y : Operand} {b o : Nat} {pre pre' rest vs : List Value} {t' : TypeId} {ty : TypeId} {v : Value} {i : TI}
    (hx : evO E x = some (.pointer (some ⟨b, o, none⟩))) (hU : Upd L ⟨b, pre ++ rest, t', (0, 0)⟩ ⟨b, pre' ++ rest, t', (0, 0)⟩ L') (hy : evO E y = some v) (hl : lookT T t = some i) (hv : normO (cellsL v) = some vs) (hlen : Nat.beq vs.length i.size = true)
    (h1 : allOne vs = true) (hs : setO pre o vs = some pre') (hne : vs ≠ []) : Chg P w0 A n E L (.store t x y) ty (fun _ L'' => L'' = L') := by
  intro a w hF hI d pos aft g
  refine ⟨.skip, w.setRow b (pre' ++ rest).toArray, undef, _, ?_, .inr ⟨rfl, rfl⟩, hI.setRow hU, rfl⟩
  refine (Sem.run_bind _ _ _ _).trans ?_
  show Result.andThen ((Instr.storeAt t (a.eval x) (a.eval y)).run P w) _ = _
  rw [hF.eval hx, hF.eval hy]
  unfold Instr.storeAt
  simp only [Instr.sureAddr, Sem.run_bind, Sem.run_pure, Result.andThen]
  unfold storeVar
  have hcs : v.cells = vs.toArray := by rw [cellsL_eq, normO_eq hv]
  rw [runM ((hT.at hl).size w), hcs]
  have hlen' : vs.length = i.size := by simpa using hlen
  obtain ⟨e1, e2⟩ := setO_eq hs
  rw [if_neg (by simp [hlen'])]
  have hown := hI.own _ hU.mem
  simp only at hown
  have e2 : o + vs.length ≤ pre.length := by
    rcases e2 with e2 | e2
    · exact absurd e2 hne
    · exact e2
  have hst := run_storeCells_at (P := P) b o t' vs 0 (pre ++ rest).toArray w hown (by simp; omega) (allOne_eq h1)
  rw [show storeCells ⟨b, o, none⟩ vs.toArray.toList = storeCells ⟨b, o, none⟩ vs 0 from rfl, hst, e1, setRange_eq _ _ _ e2]
  simp only [Nat.add_zero, List.append_assoc]
  rw [List.take_append_of_le_length (by omega), List.drop_append_of_le_length e2]

/-- Storing a part of an element of it. -/
theorem chg_stx {α : Type} {enc : α → List Value} (hT : TabOk P T) {t : TypeId} {x u : Operand} {b o q size : Nat} {c c' pre post : List Value} {t' : TypeId} {v : Int} {ty : TypeId} {val : Value} {i : TI} {cs : List Value} {xs : List α} {y y' : α}
    (hx : evO E x = some (.pointer (some ⟨b, o + v.toNat * size + q, none⟩))) (hu : evO E u = some val) (hl : lookT T t = some i) (hv : normO (cellsL val) = some cs) (hlen : Nat.beq cs.length i.size = true) (h1 : allOne cs = true)
    (hU : Upd L ⟨b, c, t', (0, 0)⟩ ⟨b, c', t', (0, 0)⟩ L') (hc : c = pre ++ (flat enc xs ++ post)) (hc' : c' = pre ++ (flat enc (setI xs v y') ++ post)) (ho : pre.length = o) (he : ∀ x, (enc x).length = size) (hg : getI xs v = some y) (hs : setO (enc y) q cs = some (enc y')) (hne : cs ≠ []) :
    Chg P w0 A n E L (.store t x u) ty (fun _ L'' => L'' = L') := by
  subst ho
  obtain ⟨h0, hy⟩ := getI_spec hg
  have hj := (List.getElem?_eq_some_iff.1 hy).1
  obtain ⟨e1, e2⟩ := setO_eq hs
  have e2 : q + cs.length ≤ size := by
    rcases e2 with e2 | e2
    · exact absurd e2 hne
    · rw [he] at e2; exact e2
  have hlen' : cs.length = i.size := by simpa using hlen
  have hjs : v.toNat * size + size ≤ (flat enc xs).length := by
    rw [flat_length he, show v.toNat * size + size = (v.toNat + 1) * size from by rw [Nat.add_mul, Nat.one_mul]]
    exact Nat.mul_le_mul_right _ hj
  intro ac w hF hI d pos aft gg
  refine ⟨.skip, w.setRow b c'.toArray, undef, _, ?_, .inr ⟨rfl, rfl⟩, hI.setRow hU, rfl⟩
  refine (Sem.run_bind _ _ _ _).trans ?_
  show Result.andThen ((Instr.storeAt t (ac.eval x) (ac.eval u)).run P w) _ = _
  rw [hF.eval hx, hF.eval hu]
  unfold Instr.storeAt
  simp only [Instr.sureAddr, Sem.run_bind, Sem.run_pure, Result.andThen]
  unfold storeVar
  have hcs : val.cells = cs.toArray := by rw [cellsL_eq, normO_eq hv]
  rw [runM ((hT.at hl).size w), hcs]
  rw [if_neg (by simp [hlen'])]
  have hown := hI.own _ hU.mem
  simp only at hown
  subst hc
  have hst := run_storeCells_at (P := P) b (pre.length + v.toNat * size + q) t' cs 0 (pre ++ (flat enc xs ++ post)).toArray w hown (by simp; omega) (allOne_eq h1)
  rw [show storeCells ⟨b, pre.length + v.toNat * size + q, none⟩ cs.toArray.toList = storeCells ⟨b, pre.length + v.toNat * size + q, none⟩ cs 0 from rfl, hst]
  have e3 : c' = (pre ++ (flat enc xs ++ post)).take (pre.length + v.toNat * size + q) ++ cs ++ (pre ++ (flat enc xs ++ post)).drop (pre.length + v.toNat * size + q + cs.length) := by
    obtain ⟨P1, hP1⟩ : ∃ P1, P1 = (flat enc xs).take (v.toNat * size) := ⟨_, rfl⟩
    obtain ⟨P2, hP2⟩ : ∃ P2, P2 = (flat enc xs).drop (v.toNat * size + size) := ⟨_, rfl⟩
    have q1 : flat enc xs = P1 ++ (enc y ++ P2) := by
      rw [hP1, hP2, ← flat_elem he hy, ← List.drop_drop, List.take_append_drop, List.take_append_drop]
    have q2 : P1.length = v.toNat * size := by rw [hP1, List.length_take]; omega
    have q3 : flat enc (xs.set v.toNat y') = P1 ++ enc y' ++ P2 := by rw [← flat_set he hj, hP1, hP2]
    rw [hc', show setI xs v y' = xs.set v.toNat y' from rfl, q3, q1, e1, setRange_eq _ _ _ (by rw [he]; exact e2), ← q2]
    simp only [List.append_assoc, Nat.add_assoc, List.take_length_add_append, List.drop_length_add_append]
    rw [List.take_append_of_le_length (by rw [he]; omega), List.drop_append_of_le_length (by rw [he]; omega)]
  rw [e3]
  simp
end

/-! ### The bytes of a string -/
section
variable {P : Program} {T : List (Nat × TI)} {E : List (Nat × Value)} {n : Nat} {w0 : World} {A : List Nat} {L L' R B : List Blk}

/-- A row that a conversion made: the cell behind it is marked. -/
def OwnZ (e : Nat) (a : Option Addr) (n cap : Nat) (cs : List Value) (B : List Blk) : Prop :=
  cs.length = n ∧ ∃ g r, a = some ⟨g, 0, none⟩ ∧ n ≤ cap ∧ (cs ++ r).length = cap ∧ B = [⟨g, cs ++ r, e, (cap, cap + 1)⟩]

theorem Rds.of_vecZ {e n cap : Nat} {a : Option Addr} {cs : List Value} (h : OwnZ e a n cap cs B) : Rds w0 A B a cs := by
  obtain ⟨_, g, r, rfl, _, _, rfl⟩ := h
  refine ⟨fun _ => ⟨rfl, .inl (by simp [ids, adOf])⟩, fun w hI j u hj => ?_⟩
  have hown := hI.own _ (List.mem_singleton.2 rfl)
  simp only [adOf, Option.getD_some, Addr.add_lit, Nat.zero_add]
  rw [cell_of hown]
  simp only [List.getElem?_toArray]
  rw [List.getElem?_append_left (List.getElem?_eq_some_iff.1 hj).1]
  exact hj
theorem vec_capZ {e n cap : Nat} {a : Option Addr} {cs : List Value} (h : OwnZ e a n cap cs B) : n ≤ cap := by
  obtain ⟨_, g, r, _, h, _⟩ := h
  exact h

end

end Go.Proofs.YtkdbpenjkcjimaaGreatDoor.Eng
