/-
  THE ENGINE, fifth part: calls that are walked in place; elements that are read again behind a store.
-/
import Derived.Test.YtkdbpenjkcjimaaGreatDoorEng3
namespace Go.Proofs.YtkdbpenjkcjimaaGreatDoor.Eng
open Go.RowKit
set_option autoImplicit true
set_option relaxedAutoImplicit true
set_option linter.unusedVariables false

section
variable {P : Program} {T : List (Nat × TI)} {ops : Array Oper} {Q : Exit → Act → World → Prop} {rest : List Oper} {E : List (Nat × Value)} {n : Nat} {w0 : World} {A : List Nat} {L Ls : List Blk}
variable {eff late wt dn todo : List Nat}

/-- What a call does, its code being walked in place, out of the same knowledge. -/
theorem cs_inl {g : FuncId} {fn : Func} {c : Code} {al : List Value} {S : Value → List Blk → Prop} {m : Nat} {E' : List (Nat × Value)}
    (hf : P.funcs[g]? = some fn) (hb : fn.body = some c) (hm : fn.ntmps = m) (hE : zipO 0 al = some E') (hlen : Nat.ble al.length m = true)
    (h : WC P (bodyPost P fn (fun e w' => ∃ v L', e = .returned v ∧ Inv w0 A w' L' ∧ S v L')) w0 A m c E' L) : CallS P w0 A L g al S := by
  intro w hI
  unfold WC at h
  refine calls_of_wp hf hb (h _ w ⟨rfl, ?_, ?_⟩ hI)
  · have : al.length ≤ m := by simpa using hlen
    simp [hm]; omega
  · intro t v ht
    have hE' := zipO_eq hE
    subst hE'
    have key : ∀ (l : List Value) (k : Nat), lookO ((l.zipIdx k).map fun p => (p.2, p.1)) t = some v → k ≤ t ∧ l[t - k]? = some v := by
      intro l
      induction l with
      | nil => intro k h; simp [lookO] at h
      | cons x l ih =>
        intro k h
        simp only [List.zipIdx_cons, List.map_cons, lookO, cond_eq_ite] at h
        by_cases he : k = t
        · subst he; simp at h; exact ⟨Nat.le_refl _, by simp [h]⟩
        · have hb : Nat.beq k t = false := Bool.eq_false_iff.2 (fun hb => he (Nat.eq_of_beq_eq_true hb))
          simp [hb] at h
          obtain ⟨h1, h2⟩ := ih (k + 1) h
          refine ⟨by omega, ?_⟩
          have : t - k = (t - (k + 1)) + 1 := by omega
          rw [this]; simpa using h2
    obtain ⟨_, h2⟩ := key al 0 ht
    have hlt : t < al.length := by
      rcases Nat.lt_or_ge t al.length with h | h
      · exact h
      · simp [List.getElem?_eq_none h] at h2
    simp only [Nat.sub_zero] at h2
    rw [Array.getElem?_append_left (by simpa using hlt)]
    simpa using h2

theorem wl_inl {f : Operand} {args : Array Operand} {ts : Array TypeId} {ty : TypeId} {pos : String} {aft : Array Edge} {d : Nat} {g : FuncId} {p q : Array Value} {vs al : List Value} {fn : Func} {c : Code} {m : Nat} {E' : List (Nat × Value)}
    (hc : ∀ args w, (callFunc g args).run P w = .ok (.enter g args) w)
    (hf : evO E f = some (.func (.func g) p q)) (ha : evArgs E args.toList = some vs) (hn : normO (p.toList ++ (vs ++ q.toList)) = some al)
    (hfn : P.funcs[g]? = some fn) (hb : fn.body = some c) (hm : fn.ntmps = m) (hE : zipO 0 al = some E') (hlen : Nat.ble al.length m = true) (hd : Nat.blt d n = true)
    (h : WC P (bodyPost P fn (fun e w' => ∃ v L', e = .returned v ∧ Inv w0 A w' L' ∧ WL P ops Q w0 A n rest ((d, v) :: E) L')) w0 A m c E' L) :
    WL P ops Q w0 A n (⟨some d, .call ⟨.value f, args, ts⟩, ty, pos, aft, none⟩ :: rest) E L :=
  wl_cs (S := fun v L' => WL P ops Q w0 A n rest ((d, v) :: E) L') hc hf ha hn (cs_inl hfn hb hm hE hlen h) hd (fun _ _ h => h)

theorem k_inlf {i d : Nat} {f : Operand} {args : Array Operand} {ts : Array TypeId} {ty : TypeId} {pos : String} {aft : Array Edge} {gg : Option (Nat × Bool)} {g : FuncId} {p q : Array Value} {vs al : List Value} {fn : Func} {c : Code} {m : Nat} {E' : List (Nat × Value)}
    (ho : ops[i]? = some ⟨some d, .call ⟨.value f, args, ts⟩, ty, pos, aft, gg⟩) (hg : gRun ops E gg = some true)
    (hc : ∀ args w, (callFunc g args).run P w = .ok (.enter g args) w)
    (hf : evO E f = some (.func (.func g) p q)) (ha : evArgs E args.toList = some vs) (hn : normO (p.toList ++ (vs ++ q.toList)) = some al)
    (hfn : P.funcs[g]? = some fn) (hb : fn.body = some c) (hm : fn.ntmps = m) (hE : zipO 0 al = some E') (hlen : Nat.ble al.length m = true) (hd : Nat.blt d n = true)
    (h : WC P (bodyPost P fn (fun e w' => ∃ v L', e = .returned v ∧ Inv w0 A w' L' ∧ ((lateB late i = true ∨ ∃ R, L'.Perm (Ls ++ R)) ∧ WK2 P ops Q w0 A n Ls eff late wt (i :: dn) todo ((d, v) :: E) L'))) w0 A m c E' L) :
    WKf P ops Q w0 A n Ls eff late wt dn i todo E L := by
  cases hl : lateB late i with
  | true => exact k_csf (S := fun v L' => (lateB late i = true ∨ ∃ R, L'.Perm (Ls ++ R)) ∧ WK2 P ops Q w0 A n Ls eff late wt (i :: dn) todo ((d, v) :: E) L') ho hg hc hf ha hn (cs_inl hfn hb hm hE hlen h) hd (.inl hl) (fun _ _ h => h.2)
  | false => exact k_csf (S := fun v L' => (lateB late i = true ∨ ∃ R, L'.Perm (Ls ++ R)) ∧ WK2 P ops Q w0 A n Ls eff late wt (i :: dn) todo ((d, v) :: E) L') ho hg hc hf ha hn (cs_inl hfn hb hm hE hlen h) hd (.inr fun _ _ h => h.1.resolve_left (by rw [hl]; exact Bool.false_ne_true)) (fun _ _ h => h.2)

theorem k_inl {i d : Nat} {f : Operand} {args : Array Operand} {ts : Array TypeId} {ty : TypeId} {pos : String} {aft : Array Edge} {gg : Option (Nat × Bool)} {g : FuncId} {p q : Array Value} {vs al : List Value} {fn : Func} {c : Code} {m : Nat} {E' : List (Nat × Value)}
    (ho : ops[i]? = some ⟨some d, .call ⟨.value f, args, ts⟩, ty, pos, aft, gg⟩) (hg : gRun ops E gg = some true) (he : eff.contains i = true)
    (hc : ∀ args w, (callFunc g args).run P w = .ok (.enter g args) w)
    (hf : evO E f = some (.func (.func g) p q)) (ha : evArgs E args.toList = some vs) (hn : normO (p.toList ++ (vs ++ q.toList)) = some al)
    (hfn : P.funcs[g]? = some fn) (hb : fn.body = some c) (hm : fn.ntmps = m) (hE : zipO 0 al = some E') (hlen : Nat.ble al.length m = true) (hd : Nat.blt d n = true)
    (h : WC P (bodyPost P fn (fun e w' => ∃ v L', e = .returned v ∧ Inv w0 A w' L' ∧ ((lateB late i = true ∨ ∃ R, L'.Perm (Ls ++ R)) ∧ WK2 P ops Q w0 A n Ls eff late wt (i :: dn) todo ((d, v) :: E) L'))) w0 A m c E' L) :
    WK2 P ops Q w0 A n Ls eff late wt dn (i :: todo) E L :=
  k_of_f he (k_inlf ho hg hc hf ha hn hfn hb hm hE hlen hd h)

/-- The end of code that was walked in place. -/
theorem wx_inl {fn : Func} (hT : TabOk P T) {S : Value → List Blk → Prop} {rs : List ResultVar} {vs : List Value} {e : Exit} {v : Value} (he : e = .ret ∨ e = .normal) (hr : fn.results = rs.toArray) (h : Res T E L rs vs)
    (hv : resV vs = v) (hS : S v L) : WX (bodyPost P fn (fun e w' => ∃ v L', e = .returned v ∧ Inv w0 A w' L' ∧ S v L')) w0 A n e E L := by
  subst hv
  exact wx_sp hT he hr h ⟨[], by simp⟩ hS

/-- What is known may be told in another order, and in part. -/
theorem wl_sub {L' : List Blk} (hs : ∃ R, L.Perm (L' ++ R)) (h : WL P ops Q w0 A n rest E L') : WL P ops Q w0 A n rest E L := by
  unfold WL at *
  exact fun a w hF hI => h a w hF (hI.sub hs)
/-- What holds wherever this is known. -/
theorem wl_know {R : Prop} (hR : ∀ w, Inv w0 A w L → R) (h : R → WL P ops Q w0 A n rest E L) : WL P ops Q w0 A n rest E L := by
  unfold WL at *
  exact fun a w hF hI => h (hR w hI) a w hF hI
theorem wc_sub {L' : List Blk} {c : Code} (hs : ∃ R, L.Perm (L' ++ R)) (h : WC P Q w0 A n c E L') : WC P Q w0 A n c E L := by
  unfold WC at *
  exact fun a w hF hI => h a w hF (hI.sub hs)
theorem wk_sub {L' : List Blk} (hs : ∃ R, L.Perm (L' ++ R)) (h : WK2 P ops Q w0 A n Ls eff late wt dn todo E L') : WK2 P ops Q w0 A n Ls eff late wt dn todo E L := by
  unfold WK2 at *
  exact fun hns ho a w hF hI => h hns ho a w hF (hI.sub hs)
/-! ### Many quiet operations at once -/
/-- k operations that only reckon, in their order: what is left to do, and the frame. -/
def pureS (T : List (Nat × TI)) (n : Nat) (ops : Array Oper) : Nat → List Oper → List (Nat × Value) → Option (List Oper × List (Nat × Value))
  | 0, l, E => some (l, E)
  | k + 1, ⟨some d, op, _, _, _, g⟩ :: l, E =>
    (match Nat.blt d n with
    | false => none
    | true => (match gRun ops E g with
      | some true => (match stepV T E op with
        | some v => pureS T n ops k l ((d, v) :: E)
        | none => none)
      | some false => pureS T n ops k l ((d, undef) :: E)
      | none => none))
  | _ + 1, _, _ => none

theorem wl_many (hT : TabOk P T) : ∀ (k : Nat) {l l' : List Oper} {E E' : List (Nat × Value)}, pureS T n ops k l E = some (l', E') → WL P ops Q w0 A n l' E' L → WL P ops Q w0 A n l E L
  | 0, l, l', E, E', h, K => by
    simp only [pureS, Option.some.injEq, Prod.mk.injEq] at h
    obtain ⟨rfl, rfl⟩ := h
    exact K
  | k + 1, [], l', E, E', h, K => by simp [pureS] at h
  | k + 1, ⟨none, op, ty, pos, aft, g⟩ :: l, l', E, E', h, K => by simp [pureS] at h
  | k + 1, ⟨some d, op, ty, pos, aft, g⟩ :: l, l', E, E', h, K => by
    unfold pureS at h
    split at h
    · cases h
    · rename_i hd
      split at h
      · rename_i hg
        split at h
        · rename_i v hv
          exact wl_run hg (wl_val (stepV_ok hT hv) hd (wl_many hT k h K))
        · cases h
      · rename_i hg
        exact wl_skip hg hd (wl_many hT k h K)
      · cases h

theorem wq_many (hT : TabOk P T) : ∀ (k : Nat) {l l' : List Oper} {E E' : List (Nat × Value)}, pureS T n ops k l E = some (l', E') → WQ P ops Q w0 A n l' E' L → WQ P ops Q w0 A n l E L
  | 0, l, l', E, E', h, K => by
    simp only [pureS, Option.some.injEq, Prod.mk.injEq] at h
    obtain ⟨rfl, rfl⟩ := h
    exact K
  | k + 1, [], l', E, E', h, K => by simp [pureS] at h
  | k + 1, ⟨none, op, ty, pos, aft, g⟩ :: l, l', E, E', h, K => by simp [pureS] at h
  | k + 1, ⟨some d, op, ty, pos, aft, g⟩ :: l, l', E, E', h, K => by
    unfold pureS at h
    split at h
    · cases h
    · rename_i hd
      split at h
      · rename_i hg
        split at h
        · rename_i v hv
          exact wq_run hg (wq_val (stepV_ok hT hv) hd (wq_many hT k h K))
        · cases h
      · rename_i hg
        exact wq_skip hg hd (wq_many hT k h K)
      · cases h

/-- The same in a region of drawn order. -/
def pureK (T : List (Nat × TI)) (n : Nat) (ops : Array Oper) (eff : List Nat) : Nat → List Nat → List Nat → List (Nat × Value) → Option (List Nat × List Nat × List (Nat × Value))
  | 0, todo, dn, E => some (todo, dn, E)
  | k + 1, i :: todo, dn, E =>
    (match ops[i]? with
    | some ⟨some d, op, _, _, _, g⟩ => (match Nat.blt d n with
      | false => none
      | true => (match gRun ops E g with
        | some true => (match eff.contains i with
          | true => none
          | false => (match stepV T E op with
            | some v => pureK T n ops eff k todo (i :: dn) ((d, v) :: E)
            | none => none))
        | some false => pureK T n ops eff k todo (i :: dn) ((d, undef) :: E)
        | none => none))
    | _ => none)
  | _ + 1, _, _, _ => none

theorem k_many (hT : TabOk P T) (hL : ∃ R, L.Perm (Ls ++ R)) : ∀ (k : Nat) {todo todo' dn dn' : List Nat} {E E' : List (Nat × Value)}, pureK T n ops eff k todo dn E = some (todo', dn', E') →
    WK2 P ops Q w0 A n Ls eff late wt dn' todo' E' L → WK2 P ops Q w0 A n Ls eff late wt dn todo E L
  | 0, todo, todo', dn, dn', E, E', h, K => by
    simp only [pureK, Option.some.injEq, Prod.mk.injEq] at h
    obtain ⟨rfl, rfl, rfl⟩ := h
    exact K
  | k + 1, [], todo', dn, dn', E, E', h, K => by simp [pureK] at h
  | k + 1, i :: todo, todo', dn, dn', E, E', h, K => by
    unfold pureK at h
    split at h
    · rename_i d op ty pos aft g ho
      split at h
      · cases h
      · rename_i hd
        split at h
        · rename_i hg
          split at h
          · cases h
          · rename_i he
            split at h
            · rename_i v hv
              exact k_val ho hg he hL (stepV_ok hT hv) hd (k_many hT hL k h K)
            · cases h
        · rename_i hg
          exact k_skip ho hg hL hd (k_many hT hL k h K)
        · cases h
    · cases h
end

/-- slices.Insert of one element; slices.Delete of the first one. -/
def insM {α : Type} (F : Nat) (xs : List α) (i : Int) (ys : List α) : Option (List α) :=
  if 0 ≤ i ∧ i ≤ (xs.length : Int) ∧ ys.length = 1 ∧ xs.length ≤ 1000 then some (xs.take i.toNat ++ ys ++ xs.drop i.toNat) else none
def delM {α : Type} (F : Nat) (xs : List α) (i j : Int) : Option (List α) :=
  if i = 0 ∧ j = 1 ∧ 2 ≤ xs.length ∧ xs.length ≤ 1000 then some (xs.drop 1) else none

theorem getI_lt {α : Type} {xs : List α} {v : Int} {x : α} (h : getI xs v = some x) : 0 ≤ v ∧ v.toNat < xs.length := by
  obtain ⟨h1, h2⟩ := getI_spec h
  exact ⟨h1, (List.getElem?_eq_some_iff.1 h2).1⟩
theorem getI_set {α : Type} {xs : List α} {v : Int} {x y : α} (h : getI xs v = some x) : getI (setI xs v y) v = some y := by
  obtain ⟨h1, h2⟩ := getI_lt h
  unfold getI setI
  rw [if_pos h1, List.getElem?_set_self h2]

theorem pH {L F pre : List Blk} {p : Blk} (h : L.Perm (pre ++ F)) : (p :: L).Perm ((p :: pre) ++ F) := pCons Sel.hc h
theorem pA {L F pre B : List Blk} (h : L.Perm (pre ++ F)) : (B ++ L).Perm ((B ++ pre) ++ F) := pApp Sel.ha h
theorem sI {α : Type} {a b : α} (h : some a = some b) : a = b := Option.some.inj h
theorem sC {p : Blk} {R X R' : List Blk} (h : Sel R X R') : Sel (p :: R) X (p :: R') := Sel.sc h
theorem sA {B R X R' : List Blk} (h : Sel R X R') : Sel (B ++ R) X (B ++ R') := Sel.sa h
theorem hC {p : Blk} {R : List Blk} : Sel (p :: R) [p] R := Sel.hc
theorem hA' {B R : List Blk} : Sel (B ++ R) B R := Sel.ha
theorem mH {α : Type} {a : α} {l : List α} : a ∈ a :: l := List.Mem.head _
theorem mT {α : Type} {a b : α} {l : List α} (h : a ∈ l) : a ∈ b :: l := List.Mem.tail _ h
theorem wSR {P : Program} {Q : Exit → Act → World → Prop} {w0 : World} {A : List Nat} {n : Nat} {E : List (Nat × Value)} {L : List Blk} {id : Nat} {l : List Oper} {y : Code} (k : WL P l.toArray (Exit.then (y.wp P Q) Q) w0 A n l E L) : WC P Q w0 A n (.seq (.region id l.toArray false) y) E L := wc_seq (wc_region k)
theorem wNT {P : Program} {ops : Array Oper} {Q : Exit → Act → World → Prop} {w0 : World} {A : List Nat} {n : Nat} {E : List (Nat × Value)} {L : List Blk} {y : Code} (k : WC P Q w0 A n y E L) : WL P ops (Exit.then (y.wp P Q) Q) w0 A n [] E L := wl_nil (wx_then k)
theorem pHH {L F pre : List Blk} {p q : Blk} (h : L.Perm (pre ++ F)) : (p :: q :: L).Perm ((p :: q :: pre) ++ F) := pH (pH h)
theorem pH4 {L F pre : List Blk} {p q r s : Blk} (h : L.Perm (pre ++ F)) : (p :: q :: r :: s :: L).Perm ((p :: q :: r :: s :: pre) ++ F) := pHH (pHH h)
theorem pAA {L F pre B C : List Blk} (h : L.Perm (pre ++ F)) : (B ++ (C ++ L)).Perm ((B ++ (C ++ pre)) ++ F) := pA (pA h)
theorem sCC {p q : Blk} {R X R' : List Blk} (h : Sel R X R') : Sel (p :: q :: R) X (p :: q :: R') := sC (sC h)
theorem sAA {B C R X R' : List Blk} (h : Sel R X R') : Sel (B ++ (C ++ R)) X (B ++ (C ++ R')) := sA (sA h)
theorem sCA {p : Blk} {B R X R' : List Blk} (h : Sel R X R') : Sel (p :: (B ++ R)) X (p :: (B ++ R')) := sC (sA h)
theorem sAC {p : Blk} {B R X R' : List Blk} (h : Sel R X R') : Sel (B ++ (p :: R)) X (B ++ (p :: R')) := sA (sC h)
theorem mTT {α : Type} {a b c : α} {l : List α} (h : a ∈ l) : a ∈ b :: c :: l := mT (mT h)
theorem wcc {P : Program} {Q : Exit → Act → World → Prop} {w0 : World} {A : List Nat} {n : Nat} {E : List (Nat × Value)} {L : List Blk} {α : Type} {c : Operand} {x y : Code} {t : Bool} {a b r : Option α} (h : cond t a b = r) (hc : evO E c = some (.bool t)) (ht : a = r → WC P Q w0 A n x E L) (hf : b = r → WC P Q w0 A n y E L) : WC P Q w0 A n (.cond c x y) E L := wc_cond hc (fun e => ht (ct e h)) (fun e => hf (cf e h))
theorem wls {P : Program} {ops : Array Oper} {rest : List Oper} {Q : Exit → Act → World → Prop} {w0 : World} {A : List Nat} {n : Nat} {E : List (Nat × Value)} {L : List Blk} {α : Type} {d : Bool} {a b r : Option α} (t : Nat) (h : cond d a b = r) (hd : lookO E t = some (.bool d)) (k1 : a = r → WL P ops Q w0 A n rest ((t, .bool true) :: E) L) (k2 : b = r → WL P ops Q w0 A n rest ((t, .bool false) :: E) L) : WL P ops Q w0 A n rest E L := wl_split hd (fun e => k1 (ct e h)) (fun e => k2 (cf e h))
theorem wqs {P : Program} {ops : Array Oper} {rest : List Oper} {Q : Exit → Act → World → Prop} {w0 : World} {A : List Nat} {n : Nat} {E : List (Nat × Value)} {L : List Blk} {α : Type} {d : Bool} {a b r : Option α} (t : Nat) (h : cond d a b = r) (hd : lookO E t = some (.bool d)) (k1 : a = r → WQ P ops Q w0 A n rest ((t, .bool true) :: E) L) (k2 : b = r → WQ P ops Q w0 A n rest ((t, .bool false) :: E) L) : WQ P ops Q w0 A n rest E L := wq_split hd (fun e => k1 (ct e h)) (fun e => k2 (cf e h))
theorem ks {P : Program} {ops : Array Oper} {Q : Exit → Act → World → Prop} {w0 : World} {A : List Nat} {n : Nat} {E : List (Nat × Value)} {L Ls : List Blk} {eff late wt dn todo : List Nat} {α : Type} {d : Bool} {a b r : Option α} (t : Nat) (h : cond d a b = r) (hd : lookO E t = some (.bool d)) (k1 : a = r → WK2 P ops Q w0 A n Ls eff late wt dn todo ((t, .bool true) :: E) L) (k2 : b = r → WK2 P ops Q w0 A n Ls eff late wt dn todo ((t, .bool false) :: E) L) : WK2 P ops Q w0 A n Ls eff late wt dn todo E L := k_split hd (fun e => k1 (ct e h)) (fun e => k2 (cf e h))
theorem ag1 {E : List (Nat × Value)} {t0 : Nat} {v0 : Value} (h0 : lookO E t0 = some v0) : Agree E ((t0, v0) :: []) := ⟨h0, trivial⟩
theorem ag2 {E : List (Nat × Value)} {t0 t1 : Nat} {v0 v1 : Value} (h0 : lookO E t0 = some v0) (h1 : lookO E t1 = some v1) : Agree E ((t0, v0) :: (t1, v1) :: []) := ⟨h0, ⟨h1, trivial⟩⟩
theorem ag3 {E : List (Nat × Value)} {t0 t1 t2 : Nat} {v0 v1 v2 : Value} (h0 : lookO E t0 = some v0) (h1 : lookO E t1 = some v1) (h2 : lookO E t2 = some v2) : Agree E ((t0, v0) :: (t1, v1) :: (t2, v2) :: []) := ⟨h0, ⟨h1, ⟨h2, trivial⟩⟩⟩
theorem ag4 {E : List (Nat × Value)} {t0 t1 t2 t3 : Nat} {v0 v1 v2 v3 : Value} (h0 : lookO E t0 = some v0) (h1 : lookO E t1 = some v1) (h2 : lookO E t2 = some v2) (h3 : lookO E t3 = some v3) : Agree E ((t0, v0) :: (t1, v1) :: (t2, v2) :: (t3, v3) :: []) := ⟨h0, ⟨h1, ⟨h2, ⟨h3, trivial⟩⟩⟩⟩
theorem ag5 {E : List (Nat × Value)} {t0 t1 t2 t3 t4 : Nat} {v0 v1 v2 v3 v4 : Value} (h0 : lookO E t0 = some v0) (h1 : lookO E t1 = some v1) (h2 : lookO E t2 = some v2) (h3 : lookO E t3 = some v3) (h4 : lookO E t4 = some v4) : Agree E ((t0, v0) :: (t1, v1) :: (t2, v2) :: (t3, v3) :: (t4, v4) :: []) := ⟨h0, ⟨h1, ⟨h2, ⟨h3, ⟨h4, trivial⟩⟩⟩⟩⟩
theorem ag6 {E : List (Nat × Value)} {t0 t1 t2 t3 t4 t5 : Nat} {v0 v1 v2 v3 v4 v5 : Value} (h0 : lookO E t0 = some v0) (h1 : lookO E t1 = some v1) (h2 : lookO E t2 = some v2) (h3 : lookO E t3 = some v3) (h4 : lookO E t4 = some v4) (h5 : lookO E t5 = some v5) : Agree E ((t0, v0) :: (t1, v1) :: (t2, v2) :: (t3, v3) :: (t4, v4) :: (t5, v5) :: []) := ⟨h0, ⟨h1, ⟨h2, ⟨h3, ⟨h4, ⟨h5, trivial⟩⟩⟩⟩⟩⟩
theorem ag7 {E : List (Nat × Value)} {t0 t1 t2 t3 t4 t5 t6 : Nat} {v0 v1 v2 v3 v4 v5 v6 : Value} (h0 : lookO E t0 = some v0) (h1 : lookO E t1 = some v1) (h2 : lookO E t2 = some v2) (h3 : lookO E t3 = some v3) (h4 : lookO E t4 = some v4) (h5 : lookO E t5 = some v5) (h6 : lookO E t6 = some v6) : Agree E ((t0, v0) :: (t1, v1) :: (t2, v2) :: (t3, v3) :: (t4, v4) :: (t5, v5) :: (t6, v6) :: []) := ⟨h0, ⟨h1, ⟨h2, ⟨h3, ⟨h4, ⟨h5, ⟨h6, trivial⟩⟩⟩⟩⟩⟩⟩
theorem ag8 {E : List (Nat × Value)} {t0 t1 t2 t3 t4 t5 t6 t7 : Nat} {v0 v1 v2 v3 v4 v5 v6 v7 : Value} (h0 : lookO E t0 = some v0) (h1 : lookO E t1 = some v1) (h2 : lookO E t2 = some v2) (h3 : lookO E t3 = some v3) (h4 : lookO E t4 = some v4) (h5 : lookO E t5 = some v5) (h6 : lookO E t6 = some v6) (h7 : lookO E t7 = some v7) : Agree E ((t0, v0) :: (t1, v1) :: (t2, v2) :: (t3, v3) :: (t4, v4) :: (t5, v5) :: (t6, v6) :: (t7, v7) :: []) := ⟨h0, ⟨h1, ⟨h2, ⟨h3, ⟨h4, ⟨h5, ⟨h6, ⟨h7, trivial⟩⟩⟩⟩⟩⟩⟩⟩
theorem ag9 {E : List (Nat × Value)} {t0 t1 t2 t3 t4 t5 t6 t7 t8 : Nat} {v0 v1 v2 v3 v4 v5 v6 v7 v8 : Value} (h0 : lookO E t0 = some v0) (h1 : lookO E t1 = some v1) (h2 : lookO E t2 = some v2) (h3 : lookO E t3 = some v3) (h4 : lookO E t4 = some v4) (h5 : lookO E t5 = some v5) (h6 : lookO E t6 = some v6) (h7 : lookO E t7 = some v7) (h8 : lookO E t8 = some v8) : Agree E ((t0, v0) :: (t1, v1) :: (t2, v2) :: (t3, v3) :: (t4, v4) :: (t5, v5) :: (t6, v6) :: (t7, v7) :: (t8, v8) :: []) := ⟨h0, ⟨h1, ⟨h2, ⟨h3, ⟨h4, ⟨h5, ⟨h6, ⟨h7, ⟨h8, trivial⟩⟩⟩⟩⟩⟩⟩⟩⟩
theorem ag10 {E : List (Nat × Value)} {t0 t1 t2 t3 t4 t5 t6 t7 t8 t9 : Nat} {v0 v1 v2 v3 v4 v5 v6 v7 v8 v9 : Value} (h0 : lookO E t0 = some v0) (h1 : lookO E t1 = some v1) (h2 : lookO E t2 = some v2) (h3 : lookO E t3 = some v3) (h4 : lookO E t4 = some v4) (h5 : lookO E t5 = some v5) (h6 : lookO E t6 = some v6) (h7 : lookO E t7 = some v7) (h8 : lookO E t8 = some v8) (h9 : lookO E t9 = some v9) : Agree E ((t0, v0) :: (t1, v1) :: (t2, v2) :: (t3, v3) :: (t4, v4) :: (t5, v5) :: (t6, v6) :: (t7, v7) :: (t8, v8) :: (t9, v9) :: []) := ⟨h0, ⟨h1, ⟨h2, ⟨h3, ⟨h4, ⟨h5, ⟨h6, ⟨h7, ⟨h8, ⟨h9, trivial⟩⟩⟩⟩⟩⟩⟩⟩⟩⟩
theorem ag11 {E : List (Nat × Value)} {t0 t1 t2 t3 t4 t5 t6 t7 t8 t9 t10 : Nat} {v0 v1 v2 v3 v4 v5 v6 v7 v8 v9 v10 : Value} (h0 : lookO E t0 = some v0) (h1 : lookO E t1 = some v1) (h2 : lookO E t2 = some v2) (h3 : lookO E t3 = some v3) (h4 : lookO E t4 = some v4) (h5 : lookO E t5 = some v5) (h6 : lookO E t6 = some v6) (h7 : lookO E t7 = some v7) (h8 : lookO E t8 = some v8) (h9 : lookO E t9 = some v9) (h10 : lookO E t10 = some v10) : Agree E ((t0, v0) :: (t1, v1) :: (t2, v2) :: (t3, v3) :: (t4, v4) :: (t5, v5) :: (t6, v6) :: (t7, v7) :: (t8, v8) :: (t9, v9) :: (t10, v10) :: []) := ⟨h0, ⟨h1, ⟨h2, ⟨h3, ⟨h4, ⟨h5, ⟨h6, ⟨h7, ⟨h8, ⟨h9, ⟨h10, trivial⟩⟩⟩⟩⟩⟩⟩⟩⟩⟩⟩
theorem ag12 {E : List (Nat × Value)} {t0 t1 t2 t3 t4 t5 t6 t7 t8 t9 t10 t11 : Nat} {v0 v1 v2 v3 v4 v5 v6 v7 v8 v9 v10 v11 : Value} (h0 : lookO E t0 = some v0) (h1 : lookO E t1 = some v1) (h2 : lookO E t2 = some v2) (h3 : lookO E t3 = some v3) (h4 : lookO E t4 = some v4) (h5 : lookO E t5 = some v5) (h6 : lookO E t6 = some v6) (h7 : lookO E t7 = some v7) (h8 : lookO E t8 = some v8) (h9 : lookO E t9 = some v9) (h10 : lookO E t10 = some v10) (h11 : lookO E t11 = some v11) : Agree E ((t0, v0) :: (t1, v1) :: (t2, v2) :: (t3, v3) :: (t4, v4) :: (t5, v5) :: (t6, v6) :: (t7, v7) :: (t8, v8) :: (t9, v9) :: (t10, v10) :: (t11, v11) :: []) := ⟨h0, ⟨h1, ⟨h2, ⟨h3, ⟨h4, ⟨h5, ⟨h6, ⟨h7, ⟨h8, ⟨h9, ⟨h10, ⟨h11, trivial⟩⟩⟩⟩⟩⟩⟩⟩⟩⟩⟩⟩
theorem ag13 {E : List (Nat × Value)} {t0 t1 t2 t3 t4 t5 t6 t7 t8 t9 t10 t11 t12 : Nat} {v0 v1 v2 v3 v4 v5 v6 v7 v8 v9 v10 v11 v12 : Value} (h0 : lookO E t0 = some v0) (h1 : lookO E t1 = some v1) (h2 : lookO E t2 = some v2) (h3 : lookO E t3 = some v3) (h4 : lookO E t4 = some v4) (h5 : lookO E t5 = some v5) (h6 : lookO E t6 = some v6) (h7 : lookO E t7 = some v7) (h8 : lookO E t8 = some v8) (h9 : lookO E t9 = some v9) (h10 : lookO E t10 = some v10) (h11 : lookO E t11 = some v11) (h12 : lookO E t12 = some v12) : Agree E ((t0, v0) :: (t1, v1) :: (t2, v2) :: (t3, v3) :: (t4, v4) :: (t5, v5) :: (t6, v6) :: (t7, v7) :: (t8, v8) :: (t9, v9) :: (t10, v10) :: (t11, v11) :: (t12, v12) :: []) := ⟨h0, ⟨h1, ⟨h2, ⟨h3, ⟨h4, ⟨h5, ⟨h6, ⟨h7, ⟨h8, ⟨h9, ⟨h10, ⟨h11, ⟨h12, trivial⟩⟩⟩⟩⟩⟩⟩⟩⟩⟩⟩⟩⟩
theorem ag14 {E : List (Nat × Value)} {t0 t1 t2 t3 t4 t5 t6 t7 t8 t9 t10 t11 t12 t13 : Nat} {v0 v1 v2 v3 v4 v5 v6 v7 v8 v9 v10 v11 v12 v13 : Value} (h0 : lookO E t0 = some v0) (h1 : lookO E t1 = some v1) (h2 : lookO E t2 = some v2) (h3 : lookO E t3 = some v3) (h4 : lookO E t4 = some v4) (h5 : lookO E t5 = some v5) (h6 : lookO E t6 = some v6) (h7 : lookO E t7 = some v7) (h8 : lookO E t8 = some v8) (h9 : lookO E t9 = some v9) (h10 : lookO E t10 = some v10) (h11 : lookO E t11 = some v11) (h12 : lookO E t12 = some v12) (h13 : lookO E t13 = some v13) : Agree E ((t0, v0) :: (t1, v1) :: (t2, v2) :: (t3, v3) :: (t4, v4) :: (t5, v5) :: (t6, v6) :: (t7, v7) :: (t8, v8) :: (t9, v9) :: (t10, v10) :: (t11, v11) :: (t12, v12) :: (t13, v13) :: []) := ⟨h0, ⟨h1, ⟨h2, ⟨h3, ⟨h4, ⟨h5, ⟨h6, ⟨h7, ⟨h8, ⟨h9, ⟨h10, ⟨h11, ⟨h12, ⟨h13, trivial⟩⟩⟩⟩⟩⟩⟩⟩⟩⟩⟩⟩⟩⟩
theorem ag15 {E : List (Nat × Value)} {t0 t1 t2 t3 t4 t5 t6 t7 t8 t9 t10 t11 t12 t13 t14 : Nat} {v0 v1 v2 v3 v4 v5 v6 v7 v8 v9 v10 v11 v12 v13 v14 : Value} (h0 : lookO E t0 = some v0) (h1 : lookO E t1 = some v1) (h2 : lookO E t2 = some v2) (h3 : lookO E t3 = some v3) (h4 : lookO E t4 = some v4) (h5 : lookO E t5 = some v5) (h6 : lookO E t6 = some v6) (h7 : lookO E t7 = some v7) (h8 : lookO E t8 = some v8) (h9 : lookO E t9 = some v9) (h10 : lookO E t10 = some v10) (h11 : lookO E t11 = some v11) (h12 : lookO E t12 = some v12) (h13 : lookO E t13 = some v13) (h14 : lookO E t14 = some v14) : Agree E ((t0, v0) :: (t1, v1) :: (t2, v2) :: (t3, v3) :: (t4, v4) :: (t5, v5) :: (t6, v6) :: (t7, v7) :: (t8, v8) :: (t9, v9) :: (t10, v10) :: (t11, v11) :: (t12, v12) :: (t13, v13) :: (t14, v14) :: []) := ⟨h0, ⟨h1, ⟨h2, ⟨h3, ⟨h4, ⟨h5, ⟨h6, ⟨h7, ⟨h8, ⟨h9, ⟨h10, ⟨h11, ⟨h12, ⟨h13, ⟨h14, trivial⟩⟩⟩⟩⟩⟩⟩⟩⟩⟩⟩⟩⟩⟩⟩
theorem ag16 {E : List (Nat × Value)} {t0 t1 t2 t3 t4 t5 t6 t7 t8 t9 t10 t11 t12 t13 t14 t15 : Nat} {v0 v1 v2 v3 v4 v5 v6 v7 v8 v9 v10 v11 v12 v13 v14 v15 : Value} (h0 : lookO E t0 = some v0) (h1 : lookO E t1 = some v1) (h2 : lookO E t2 = some v2) (h3 : lookO E t3 = some v3) (h4 : lookO E t4 = some v4) (h5 : lookO E t5 = some v5) (h6 : lookO E t6 = some v6) (h7 : lookO E t7 = some v7) (h8 : lookO E t8 = some v8) (h9 : lookO E t9 = some v9) (h10 : lookO E t10 = some v10) (h11 : lookO E t11 = some v11) (h12 : lookO E t12 = some v12) (h13 : lookO E t13 = some v13) (h14 : lookO E t14 = some v14) (h15 : lookO E t15 = some v15) : Agree E ((t0, v0) :: (t1, v1) :: (t2, v2) :: (t3, v3) :: (t4, v4) :: (t5, v5) :: (t6, v6) :: (t7, v7) :: (t8, v8) :: (t9, v9) :: (t10, v10) :: (t11, v11) :: (t12, v12) :: (t13, v13) :: (t14, v14) :: (t15, v15) :: []) := ⟨h0, ⟨h1, ⟨h2, ⟨h3, ⟨h4, ⟨h5, ⟨h6, ⟨h7, ⟨h8, ⟨h9, ⟨h10, ⟨h11, ⟨h12, ⟨h13, ⟨h14, ⟨h15, trivial⟩⟩⟩⟩⟩⟩⟩⟩⟩⟩⟩⟩⟩⟩⟩⟩

/-- A part of what is known, found by search. -/
class SelC (L X : List Blk) (R : outParam (List Blk)) : Prop where
  s : Sel L X R
instance (priority := 2000) selC_h {b : Blk} {R : List Blk} : SelC (b :: R) [b] R := ⟨Sel.hc⟩
instance (priority := 2000) selC_a {B R : List Blk} : SelC (B ++ R) B R := ⟨Sel.ha⟩
instance (priority := 1000) selC_t {b : Blk} {R X R' : List Blk} [h : SelC R X R'] : SelC (b :: R) X (b :: R') := ⟨Sel.sc h.s⟩
instance (priority := 1000) selC_r {B R X R' : List Blk} [h : SelC R X R'] : SelC (B ++ R) X (B ++ R') := ⟨Sel.sa h.s⟩
class PrmC (L X : List Blk) (F : outParam (List Blk)) : Prop where
  p : L.Perm (X ++ F)
instance (priority := 2000) prmC_n {L : List Blk} : PrmC L [] L := ⟨pNil⟩
instance (priority := 1500) prmC_o {L X F : List Blk} [h : PrmC L X F] : PrmC L ([] ++ X) F := ⟨h.p⟩
instance (priority := 1000) prmC_c {L R X F : List Blk} {b : Blk} [s : SelC L [b] R] [h : PrmC R X F] : PrmC L (b :: X) F := ⟨pCons s.s h.p⟩
instance (priority := 1000) prmC_a {L R X F B : List Blk} [s : SelC L B R] [h : PrmC R X F] : PrmC L (B ++ X) F := ⟨pApp s.s h.p⟩
theorem pP {L X F : List Blk} [h : PrmC L X F] : L.Perm (X ++ F) := h.p
theorem pI {L X F : List Blk} [h : PrmC L X F] : ∃ R, L.Perm (X ++ R) := ⟨F, h.p⟩
theorem pJ2 {α0 α1 : Type} {a0 b0 : α0} {a1 b1 : α1} (h : some (a0, a1) = some (b0, b1)) : a0 = b0 ∧ a1 = b1 := by
  simp only [Option.some.injEq, Prod.mk.injEq] at h; exact h
theorem pJ3 {α0 α1 α2 : Type} {a0 b0 : α0} {a1 b1 : α1} {a2 b2 : α2} (h : some (a0, a1, a2) = some (b0, b1, b2)) : a0 = b0 ∧ a1 = b1 ∧ a2 = b2 := by
  simp only [Option.some.injEq, Prod.mk.injEq] at h; exact h
theorem pJ4 {α0 α1 α2 α3 : Type} {a0 b0 : α0} {a1 b1 : α1} {a2 b2 : α2} {a3 b3 : α3} (h : some (a0, a1, a2, a3) = some (b0, b1, b2, b3)) : a0 = b0 ∧ a1 = b1 ∧ a2 = b2 ∧ a3 = b3 := by
  simp only [Option.some.injEq, Prod.mk.injEq] at h; exact h
theorem pJ5 {α0 α1 α2 α3 α4 : Type} {a0 b0 : α0} {a1 b1 : α1} {a2 b2 : α2} {a3 b3 : α3} {a4 b4 : α4} (h : some (a0, a1, a2, a3, a4) = some (b0, b1, b2, b3, b4)) : a0 = b0 ∧ a1 = b1 ∧ a2 = b2 ∧ a3 = b3 ∧ a4 = b4 := by
  simp only [Option.some.injEq, Prod.mk.injEq] at h; exact h
theorem pJ6 {α0 α1 α2 α3 α4 α5 : Type} {a0 b0 : α0} {a1 b1 : α1} {a2 b2 : α2} {a3 b3 : α3} {a4 b4 : α4} {a5 b5 : α5} (h : some (a0, a1, a2, a3, a4, a5) = some (b0, b1, b2, b3, b4, b5)) : a0 = b0 ∧ a1 = b1 ∧ a2 = b2 ∧ a3 = b3 ∧ a4 = b4 ∧ a5 = b5 := by
  simp only [Option.some.injEq, Prod.mk.injEq] at h; exact h
theorem pS {L F pre : List Blk} {p q : Blk} (h : (q :: L).Perm (pre ++ F)) : (q :: p :: L).Perm ((p :: pre) ++ F) := pCons (sC hC) h
theorem qS {L F pre B : List Blk} {q : Blk} (h : (q :: L).Perm (pre ++ F)) : (q :: (B ++ L)).Perm ((B ++ pre) ++ F) := pApp (sC hA') h

end Go.Proofs.YtkdbpenjkcjimaaGreatDoor.Eng
