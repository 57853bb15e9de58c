/-
  THE ENGINE, third part: lists whose elements hold a slice. A ghost list of pairs (element, where its slice stands) has the cells; the model's list is what stands first in the pairs.
-/
import Derived.Test.YtkdbpenjkcjimaaGreatDoorEng2
namespace Go.Proofs.YtkdbpenjkcjimaaGreatDoor.Eng
open Go.RowKit
set_option autoImplicit true
set_option relaxedAutoImplicit true
set_option linter.unusedVariables false

/-- Where an element's slice stands: its place, its length, its capacity. -/
abbrev G := Option Addr × Nat × Nat
def unG {S : Type} (l : List (S × G)) : List S := l.map Prod.fst
@[simp] theorem unG_nil {S : Type} : unG ([] : List (S × G)) = [] := rfl
@[simp] theorem unG_one {S : Type} (p : S × G) : unG [p] = [p.1] := rfl
@[simp] theorem unG_length {S : Type} (l : List (S × G)) : (unG l).length = l.length := by simp [unG]
theorem unG_append {S : Type} (a b : List (S × G)) : unG (a ++ b) = unG a ++ unG b := by simp [unG]

theorem getI_unG {S : Type} {l : List (S × G)} {v : Int} {x : S} (h : getI (unG l) v = some x) : ∃ g, getI l v = some (x, g) := by
  unfold getI at *
  split at h
  · rename_i h0
    unfold unG at h
    rw [List.getElem?_map] at h
    obtain ⟨p, hp, rfl⟩ := Option.map_eq_some_iff.1 h
    exact ⟨p.2, by rw [if_pos h0]; exact hp⟩
  · cases h
theorem setI_unG {S : Type} (l : List (S × G)) (v : Int) (p : S × G) : setI (unG l) v p.1 = unG (setI l v p) := by
  unfold setI unG
  rw [List.map_set]
theorem appI_unG {S : Type} {a b : List (S × G)} {z : List S} (h : appI (unG a) (unG b) = some z) : appI a b = some (a ++ b) ∧ z = unG (a ++ b) := by
  unfold appI at *
  simp only [unG_length] at h
  split at h
  · rename_i hc
    rw [if_pos hc]
    refine ⟨rfl, ?_⟩
    rw [unG_append]
    exact (Option.some.inj h).symm
  · cases h
theorem cutI_unG {S : Type} {a : List (S × G)} {lo hi : Int} {z : List S} (h : cutI (unG a) lo hi = some z) : ∃ y, cutI a lo hi = some y ∧ z = unG y := by
  unfold cutI at *
  simp only [unG_length] at h
  split at h
  · rename_i hc
    rw [if_pos hc]
    refine ⟨_, rfl, ?_⟩
    rw [← Option.some.inj h]
    unfold unG
    rw [List.map_drop, List.map_take]
  · cases h

section
variable {w0 : World} {A : List Nat} {B C L : List Blk} {a : Option Addr} {cs : List Value}

theorem Rds.more (h : Rds w0 A B a cs) (hs : ∀ w M, Inv w0 A w M → (∃ R, M.Perm (C ++ R)) → Inv w0 A w B) (hB : ∀ p ∈ B, p ∈ C) : Rds w0 A C a cs := by
  refine ⟨fun h0 => ⟨(h.there h0).1, ?_⟩, fun w hI => h.at_ w (hs w C hI ⟨[], by simp⟩)⟩
  rcases (h.there h0).2 with h1 | h1
  · left
    obtain ⟨p, hp, he⟩ := List.mem_map.1 h1
    exact List.mem_map.2 ⟨p, hB p hp, he⟩
  · exact .inr h1
theorem Rds.left (h : Rds w0 A B a cs) : Rds w0 A (B ++ C) a cs :=
  h.more (fun w M hI ⟨R, hR⟩ => hI.sub ⟨C ++ R, by rw [← List.append_assoc]; exact hR⟩) (fun p hp => List.mem_append_left _ hp)
theorem Rds.right (h : Rds w0 A B a cs) : Rds w0 A (C ++ B) a cs :=
  h.more (fun w M hI ⟨R, hR⟩ => hI.sub ⟨C ++ R, hR.trans (by rw [← List.append_assoc]; exact (List.perm_append_comm).append_right R)⟩) (fun p hp => List.mem_append_right _ hp)
end

/-- The inner rows of a ghost list can be read over the blocks B. -/
def AllRd {S β : Type} (sh : S → List β) (enc : β → List Value) (w0 : World) (A : List Nat) (B : List Blk) (l : List (S × G)) : Prop :=
  ∀ p ∈ l, p.2.2.1 = (sh p.1).length ∧ p.2.2.1 ≤ p.2.2.2 ∧ Rds w0 A B p.2.1 (flat enc (sh p.1)) ∧ (p.2.1 = none → p.2.2.2 = 0)

/-- They can be read over the blocks B, wherever one begins. -/
def AllP {S β : Type} (sh : S → List β) (enc : β → List Value) (B : List Blk) (l : List (S × G)) : Prop := ∀ w A, AllRd sh enc w A B l

section
variable {S β : Type} {sh : S → List β} {enc : β → List Value} {B C L R R' pre F : List Blk} {l m : List (S × G)} {w0 : World} {A : List Nat} {z : List S}

theorem getI_g {xs : List S} (hG : xs = unG l) {v : Int} {x : S} (h : getI xs v = some x) : ∃ g, getI l v = some (x, g) := getI_unG (hG ▸ h)
theorem setI_g {xs : List S} (hG : xs = unG l) (v : Int) (p : S × G) : setI xs v p.1 = unG (setI l v p) := by rw [hG]; exact setI_unG l v p
theorem app_g {xs ys : List S} (hG : xs = unG l) (hG' : ys = unG m) (h : appI xs ys = some z) : appI l m = some (l ++ m) ∧ z = unG (l ++ m) := by subst hG; subst hG'; exact appI_unG h
theorem cut_g {xs : List S} (hG : xs = unG l) {lo hi : Int} (h : cutI xs lo hi = some z) : ∃ y, cutI l lo hi = some y ∧ z = unG y := by subst hG; exact cutI_unG h
theorem len_g {xs : List S} {n : Nat} (hn : n = xs.length) (hG : xs = unG l) : n = l.length := by rw [hn, hG, unG_length]

theorem allrd_nil : AllRd sh enc w0 A B ([] : List (S × G)) := fun p hp => by cases hp
theorem allrd_one {x : S} {a : Option Addr} {n cap : Nat} {s : List β} (hs : sh x = s) (hn : n = s.length) (hc : n ≤ cap) (hr : Rds w0 A B a (flat enc s)) (hz : a = none → cap = 0) : AllRd sh enc w0 A B [(x, (a, n, cap))] := fun p hp => by
  rw [List.mem_singleton.1 hp]
  subst hs
  exact ⟨hn, hc, hr, hz⟩
theorem allrd_app (h : AllRd sh enc w0 A B l) (h' : AllRd sh enc w0 A B m) : AllRd sh enc w0 A B (l ++ m) := fun p hp => by
  rcases List.mem_append.1 hp with hp | hp
  · exact h p hp
  · exact h' p hp
theorem allrd_get (h : AllRd sh enc w0 A B l) {v : Int} {p : S × G} (hg : getI l v = some p) : p.2.2.1 = (sh p.1).length ∧ p.2.2.1 ≤ p.2.2.2 ∧ Rds w0 A B p.2.1 (flat enc (sh p.1)) ∧ (p.2.1 = none → p.2.2.2 = 0) :=
  h p (List.mem_of_getElem? (getI_spec hg).2)
theorem allrd_set (h : AllRd sh enc w0 A B l) {v : Int} {p : S × G} (h' : AllRd sh enc w0 A B [p]) : AllRd sh enc w0 A B (setI l v p) := fun r hr => by
  unfold setI at hr
  rcases List.mem_or_eq_of_mem_set hr with hr | rfl
  · exact h r hr
  · exact h' r (List.mem_singleton.2 rfl)
theorem allrd_cut (h : AllRd sh enc w0 A B l) {lo hi : Int} (hc : cutI l lo hi = some m) : AllRd sh enc w0 A B m := fun r hr => by
  unfold cutI at hc
  split at hc
  · rw [← Option.some.inj hc] at hr
    exact h r (List.mem_of_mem_take (List.mem_of_mem_drop hr))
  · cases hc
theorem allrd_left (h : AllRd sh enc w0 A B l) : AllRd sh enc w0 A (B ++ C) l := fun p hp => by
  obtain ⟨h1, h2, h3, h4⟩ := h p hp
  exact ⟨h1, h2, h3.left, h4⟩
theorem allrd_right (h : AllRd sh enc w0 A B l) : AllRd sh enc w0 A (C ++ B) l := fun p hp => by
  obtain ⟨h1, h2, h3, h4⟩ := h p hp
  exact ⟨h1, h2, h3.right, h4⟩
theorem allrd_weak (h : AllRd sh enc w0 A [] l) : AllRd sh enc w0 A B l := fun p hp => by
  obtain ⟨h1, h2, h3, h4⟩ := h p hp
  exact ⟨h1, h2, h3.weak, h4⟩
theorem allrd_rep {x : S} (k : Nat) (hs : sh x = []) : AllRd sh enc w0 A B (List.replicate k (x, ((none, 0, 0) : G))) := fun p hp => by
  rw [List.eq_of_mem_replicate hp]
  refine ⟨?_, Nat.le_refl _, ?_, fun _ => rfl⟩
  · rw [hs]; rfl
  · rw [hs]; exact Rds.nil
theorem unG_rep {x : S} {g : G} (k : Nat) : List.replicate k x = unG (List.replicate k (x, g)) := by simp [unG]
theorem AllRd.call (h : AllRd sh enc w0 A B l) (hp : L.Perm (pre ++ F)) (hB : ∃ R, F.Perm (B ++ R)) : ∀ w, Inv w0 A w L → AllRd sh enc w (ids pre) [] l := fun w hI p hp' => by
  obtain ⟨h1, h2, h3, h4⟩ := h p hp'
  exact ⟨h1, h2, h3.call hp hB w hI, h4⟩

theorem own_Z {e size n cap : Nat} {a : Option Addr} {cs : List Value} (h : Own e size a n cap cs B) (ha : a = none) : cap = 0 := by
  rcases h.2 with ⟨_, h1⟩ | ⟨g, pr, r, h1, _⟩
  · exact h1
  · rw [h1] at ha; cases ha

theorem setn_g {xs : List S} {n : Nat} (hG : xs = unG l) (N : n = l.length) : n = xs.length := by rw [hG, unG_length]; exact N
theorem appn_g {xs : List S} {n : Nat} (hG : xs = unG l) (N : n = l.length) : n = xs.length := setn_g hG N
theorem cut_n {α : Type} (xs : List α) {z : List α} {hi : Int} (x : cutI xs 0 hi = some z) : hi.toNat = z.length := by
  unfold cutI at x
  split at x
  · rw [← Option.some.inj x]; simp; omega
  · cases x
theorem cut_v {α : Type} {xs z : List α} {hi : Int} (x : cutI xs 0 hi = some z) : hi = (hi.toNat : Int) := by
  unfold cutI at x
  split at x
  · omega
  · cases x
theorem cut_len {xs : List S} {hi : Int} {k : Nat} (hG : xs = unG l) (y : cutI l 0 hi = some m) (h : xs.length = k) : hi.toNat ≤ k := by
  unfold cutI at y
  split at y
  · rw [← h, hG, unG_length]; omega
  · cases y
theorem rds_arr {α : Type} {enc : α → List Value} {pre post c : List Value} {xs z : List α} {hi : Int} {b o : Nat} {t : TypeId} {fz : Nat × Nat} (hc : c = pre ++ (flat enc xs ++ post)) (ho : pre.length = o) (y : cutI xs 0 hi = some z) :
    Rds w0 A [⟨b, c, t, fz⟩] (some ⟨b, o, none⟩) (flat enc z) := by
  subst ho; subst hc
  refine ⟨fun _ => ⟨rfl, .inl (by simp [ids, adOf])⟩, fun w hI j u hj => ?_⟩
  have hown := hI.own _ (List.mem_singleton.2 rfl)
  simp only [adOf, Option.getD_some, Addr.add_lit]
  rw [cell_of hown]
  unfold cutI at y
  split at y
  · have h1 : flat enc xs = flat enc z ++ flat enc (xs.drop hi.toNat) := by
      rw [← Option.some.inj y, ← flat_append]
      simp
    simp only [List.getElem?_toArray]
    rw [List.getElem?_append_right (by omega), show pre.length + j - pre.length = j by omega, h1, List.append_assoc, List.getElem?_append_left (List.getElem?_eq_some_iff.1 hj).1]
    exact hj
  · cases y

/-- Two parts become one. -/
theorem pMerge {P : List Blk} (s1 : Sel L P R) (s2 : Sel R B R') : ∃ F, L.Perm (((P ++ B) ++ R') ++ F) := by
  unfold Sel at *
  refine ⟨[], ?_⟩
  rw [List.append_nil, List.append_assoc]
  exact s1.trans (List.Perm.append_left P s2)
end

section
variable {P : Program} {T : List (Nat × TI)} {E : List (Nat × Value)} {n : Nat} {w0 : World} {A : List Nat} {L : List Blk}
/-- The first elements of an array. -/
theorem val_slh (hT : TabOk P T) {t e : TypeId} {s1 b1 size by' m j : Nat} {z1 z : Option (List Value)} {td : TD} {x y : Operand} {b o : Nat} {k : IntKind} {v : Int} {ty : TypeId}
    (hlt : lookT T t = some ⟨.arr m e, s1, b1, z1⟩) (hle : lookT T e = some ⟨td, size, by', z⟩) (hx : evO E x = some (.pointer (some ⟨b, o, none⟩))) (hy : evO E y = some (.int k v)) (hv : v = (j : Int)) (hj : j ≤ m) (hm : Nat.blt 0 m = true) :
    Val P w0 A n E L (.slice t x none (some y) none) ty (.slice (some ⟨b, o, none⟩) j m) := by
  subst hv
  intro a w hF hI d pos aft g
  obtain ⟨xt, hxt, hft, hpu⟩ := (hT.at hlt).und w
  simp only [TD.fits] at hft
  subst hft
  have hm' : m ≠ 0 := by have : 0 < m := by simpa using hm
                         omega
  refine run_v ?_
  rw [hF.eval hx]
  unfold Instr.sliceAt
  simp only [Instr.sureAddr, Sem.run_bind, Sem.run_pure, Result.andThen, hxt, Option.map_none, Option.map_some, Instr.sliceBounds, hF.eval hy]
  simp [(hT.at hle).size w, hm', Addr.add_lit, run_bound hj]

/-- An element of an array's value. -/
theorem val_xv {α : Type} {enc : α → List Value} (hT : TabOk P T) {t e : TypeId} {s1 b1 size by' m : Nat} {z1 z : Option (List Value)} {td : TD} {x i : Operand} {k : IntKind} {v : Int} {ty : TypeId} {xs : List α} {y : α}
    (hlt : lookT T t = some ⟨.arr m e, s1, b1, z1⟩) (hle : lookT T e = some ⟨td, size, by', z⟩) (hagg : td.agg = true) (hx : evO E x = some (.agg (flat enc xs).toArray)) (hi : evO E i = some (.int k v)) (hl : xs.length = m) (he : ∀ x, (enc x).length = size) (hg : getI xs v = some y) :
    Val P w0 A n E L (.index t x i) ty (.agg (enc y).toArray) := by
  obtain ⟨h0, hy⟩ := getI_spec hg
  have hj := (List.getElem?_eq_some_iff.1 hy).1
  refine val_iv (j := v.toNat) hT hlt hle hx hi (Int.toNat_of_nonneg h0).symm (by simpa [← hl] using hj) ?_
  unfold partV
  simp only [hle, hagg, cond_true]
  have h1 : dropO (v.toNat * size) (flat enc xs) = (flat enc xs).drop (v.toNat * size) := by
    generalize flat enc xs = l
    generalize v.toNat * size = q
    induction q generalizing l with
    | zero => rfl
    | succ q ih => cases l with
      | nil => rfl
      | cons y l => exact ih l
  have h2 : ∀ (q : Nat) (l r : List Value), r.length = q → l.take q = r → takeO q l = some r := by
    intro q
    induction q with
    | zero => intro l r hr _; rw [List.eq_nil_of_length_eq_zero hr]; rfl
    | succ q ih =>
      intro l r hr hl
      cases l with
      | nil => simp at hl; subst hl; simp at hr
      | cons y l =>
        cases r with
        | nil => simp at hr
        | cons y' r =>
          simp only [List.take_succ_cons, List.cons.injEq] at hl
          obtain ⟨rfl, hl⟩ := hl
          simp only [takeO, ih l r (by simpa using hr) hl]
  rw [h1, h2 size _ (enc y) (he y) (flat_elem he hy)]

theorem arrg_len {S : Type} {xs : List S} {l : List (S × G)} {m : Nat} (hG : xs = unG l) (h : xs.length = m) : l.length = m := by rw [← h, hG, unG_length]
theorem arr_len {α : Type} {enc : α → List Value} {xs : List α} {m s k : Nat} (he : ∀ x, (enc x).length = s) (hl : xs.length = m) (hk : Nat.beq (m * s) k = true) : (flat enc xs).length = k := by
  rw [flat_length he, hl]; exact Nat.eq_of_beq_eq_true hk
/-- A whole array in a block. -/
theorem partV_arr {α : Type} {enc : α → List Value} {t e : TypeId} {by' size m o : Nat} {z : Option (List Value)} {c pre post : List Value} {xs : List α}
    (hlt : lookT T t = some ⟨.arr m e, size, by', z⟩) (hc : c = pre ++ (flat enc xs ++ post)) (ho : pre.length = o) (hl : (flat enc xs).length = size) : partV T t c o = some (.agg (flat enc xs).toArray) := by
  subst hc; subst ho
  unfold partV
  simp only [hlt, TD.agg, cond_true, dropO_eq, List.drop_left]
  have h2 : ∀ (r l : List Value), takeO r.length (r ++ l) = some r := by
    intro r l
    induction r with
    | nil => rfl
    | cons y r ih => simp only [List.length_cons, List.cons_append, takeO, ih]
  rw [← hl, h2]
end

end Go.Proofs.YtkdbpenjkcjimaaGreatDoor.Eng
