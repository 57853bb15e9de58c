/-
  THE ENGINE, fifth part: calls that are walked in place; elements that are read again behind a store.
-/
import Derived.Test.YtekplmhmppdpcaaDoorEng3
namespace Go.Proofs.YtekplmhmppdpcaaDoor.Eng
open Go.RowKit
set_option autoImplicit true
set_option relaxedAutoImplicit true
set_option linter.unusedVariables false

section
variable {P : Program} {T : List (Nat × TI)} {ops : Array Oper} {Q : Exit → Act → World → Prop} {rest : List Oper} {E : List (Nat × Value)} {n : Nat} {w0 : World} {A : List Nat} {L Ls : List Blk}
variable {eff late wt dn todo : List Nat}

/-- What a call does, its code being walked in place, out of the same knowledge. -/
theorem cs_inl {g : FuncId} {fn : Func} {c : Code} {al : List Value} {S : Value → List Blk → Prop} {m : Nat} {E' : List (Nat × Value)}
    (hf : P.funcs[g]? = some fn) (hb : fn.body = some c) (hm : fn.ntmps = m) (hE : zipO 0 al = some E') (hlen : Nat.ble al.length m = true)
    (h : WC P (bodyPost P fn (fun e w' => ∃ v L', e = .returned v ∧ Inv w0 A w' L' ∧ S v L')) w0 A m c E' L) : CallS P w0 A L g al S := by
  intro w hI
  unfold WC at h
  refine calls_of_wp hf hb (h _ w ⟨rfl, ?_, ?_⟩ hI)
  · have : al.length ≤ m := by simpa using hlen
    simp [hm]; omega
  · intro t v ht
    have hE' := zipO_eq hE
    subst hE'
    have key : ∀ (l : List Value) (k : Nat), lookO ((l.zipIdx k).map fun p => (p.2, p.1)) t = some v → k ≤ t ∧ l[t - k]? = some v := by
      intro l
      induction l with
      | nil => intro k h; simp [lookO] at h
      | cons x l ih =>
        intro k h
        simp only [List.zipIdx_cons, List.map_cons, lookO, cond_eq_ite] at h
        by_cases he : k = t
        · subst he; simp at h; exact ⟨Nat.le_refl _, by simp [h]⟩
        · have hb : Nat.beq k t = false := Bool.eq_false_iff.2 (fun hb => he (Nat.eq_of_beq_eq_true hb))
          simp [hb] at h
          obtain ⟨h1, h2⟩ := ih (k + 1) h
          refine ⟨by omega, ?_⟩
          have : t - k = (t - (k + 1)) + 1 := by omega
          rw [this]; simpa using h2
    obtain ⟨_, h2⟩ := key al 0 ht
    have hlt : t < al.length := by
      rcases Nat.lt_or_ge t al.length with h | h
      · exact h
      · simp [List.getElem?_eq_none h] at h2
    simp only [Nat.sub_zero] at h2
    rw [Array.getElem?_append_left (by simpa using hlt)]
    simpa using h2

theorem wl_inl {f : Operand} {args : Array Operand} {ts : Array TypeId} {ty : TypeId} {pos : String} {aft : Array Edge} {d : Nat} {g : FuncId} {p q : Array Value} {vs al : List Value} {fn : Func} {c : Code} {m : Nat} {E' : List (Nat × Value)}
    (hc : ∀ args w, (callFunc g args).run P w = .ok (.enter g args) w)
    (hf : evO E f = some (.func (.func g) p q)) (ha : evArgs E args.toList = some vs) (hn : normO (p.toList ++ (vs ++ q.toList)) = some al)
    (hfn : P.funcs[g]? = some fn) (hb : fn.body = some c) (hm : fn.ntmps = m) (hE : zipO 0 al = some E') (hlen : Nat.ble al.length m = true) (hd : Nat.blt d n = true)
    (h : WC P (bodyPost P fn (fun e w' => ∃ v L', e = .returned v ∧ Inv w0 A w' L' ∧ WL P ops Q w0 A n rest ((d, v) :: E) L')) w0 A m c E' L) :
    WL P ops Q w0 A n (⟨some d, .call ⟨.value f, args, ts⟩, ty, pos, aft, none⟩ :: rest) E L :=
  wl_cs (S := fun v L' => WL P ops Q w0 A n rest ((d, v) :: E) L') hc hf ha hn (cs_inl hfn hb hm hE hlen h) hd (fun _ _ h => h)

theorem k_inlf {i d : Nat} {f : Operand} {args : Array Operand} {ts : Array TypeId} {ty : TypeId} {pos : String} {aft : Array Edge} {gg : Option (Nat × Bool)} {g : FuncId} {p q : Array Value} {vs al : List Value} {fn : Func} {c : Code} {m : Nat} {E' : List (Nat × Value)}
    (ho : ops[i]? = some ⟨some d, .call ⟨.value f, args, ts⟩, ty, pos, aft, gg⟩) (hg : gRun ops E gg = some true)
    (hc : ∀ args w, (callFunc g args).run P w = .ok (.enter g args) w)
    (hf : evO E f = some (.func (.func g) p q)) (ha : evArgs E args.toList = some vs) (hn : normO (p.toList ++ (vs ++ q.toList)) = some al)
    (hfn : P.funcs[g]? = some fn) (hb : fn.body = some c) (hm : fn.ntmps = m) (hE : zipO 0 al = some E') (hlen : Nat.ble al.length m = true) (hd : Nat.blt d n = true)
    (h : WC P (bodyPost P fn (fun e w' => ∃ v L', e = .returned v ∧ Inv w0 A w' L' ∧ ((lateB late i = true ∨ ∃ R, L'.Perm (Ls ++ R)) ∧ WK2 P ops Q w0 A n Ls eff late wt (i :: dn) todo ((d, v) :: E) L'))) w0 A m c E' L) :
    WKf P ops Q w0 A n Ls eff late wt dn i todo E L := by
  cases hl : lateB late i with
  | true => exact k_csf (S := fun v L' => (lateB late i = true ∨ ∃ R, L'.Perm (Ls ++ R)) ∧ WK2 P ops Q w0 A n Ls eff late wt (i :: dn) todo ((d, v) :: E) L') ho hg hc hf ha hn (cs_inl hfn hb hm hE hlen h) hd (.inl hl) (fun _ _ h => h.2)
  | false => exact k_csf (S := fun v L' => (lateB late i = true ∨ ∃ R, L'.Perm (Ls ++ R)) ∧ WK2 P ops Q w0 A n Ls eff late wt (i :: dn) todo ((d, v) :: E) L') ho hg hc hf ha hn (cs_inl hfn hb hm hE hlen h) hd (.inr fun _ _ h => h.1.resolve_left (by rw [hl]; exact Bool.false_ne_true)) (fun _ _ h => h.2)

theorem k_inl {i d : Nat} {f : Operand} {args : Array Operand} {ts : Array TypeId} {ty : TypeId} {pos : String} {aft : Array Edge} {gg : Option (Nat × Bool)} {g : FuncId} {p q : Array Value} {vs al : List Value} {fn : Func} {c : Code} {m : Nat} {E' : List (Nat × Value)}
    (ho : ops[i]? = some ⟨some d, .call ⟨.value f, args, ts⟩, ty, pos, aft, gg⟩) (hg : gRun ops E gg = some true) (he : eff.contains i = true)
    (hc : ∀ args w, (callFunc g args).run P w = .ok (.enter g args) w)
    (hf : evO E f = some (.func (.func g) p q)) (ha : evArgs E args.toList = some vs) (hn : normO (p.toList ++ (vs ++ q.toList)) = some al)
    (hfn : P.funcs[g]? = some fn) (hb : fn.body = some c) (hm : fn.ntmps = m) (hE : zipO 0 al = some E') (hlen : Nat.ble al.length m = true) (hd : Nat.blt d n = true)
    (h : WC P (bodyPost P fn (fun e w' => ∃ v L', e = .returned v ∧ Inv w0 A w' L' ∧ ((lateB late i = true ∨ ∃ R, L'.Perm (Ls ++ R)) ∧ WK2 P ops Q w0 A n Ls eff late wt (i :: dn) todo ((d, v) :: E) L'))) w0 A m c E' L) :
    WK2 P ops Q w0 A n Ls eff late wt dn (i :: todo) E L :=
  k_of_f he (k_inlf ho hg hc hf ha hn hfn hb hm hE hlen hd h)

/-- The end of code that was walked in place. -/
theorem wx_inl {fn : Func} (hT : TabOk P T) {S : Value → List Blk → Prop} {rs : List ResultVar} {vs : List Value} {e : Exit} {v : Value} (he : e = .ret ∨ e = .normal) (hr : fn.results = rs.toArray) (h : Res T E L rs vs)
    (hv : resV vs = v) (hS : S v L) : WX (bodyPost P fn (fun e w' => ∃ v L', e = .returned v ∧ Inv w0 A w' L' ∧ S v L')) w0 A n e E L := by
  subst hv
  exact wx_sp hT he hr h ⟨[], by simp⟩ hS

/-- What is known may be told in another order, and in part. -/
theorem wl_sub {L' : List Blk} (hs : ∃ R, L.Perm (L' ++ R)) (h : WL P ops Q w0 A n rest E L') : WL P ops Q w0 A n rest E L := by
  unfold WL at *
  exact fun a w hF hI => h a w hF (hI.sub hs)
/-- What holds wherever this is known. -/
theorem wl_know {R : Prop} (hR : ∀ w, Inv w0 A w L → R) (h : R → WL P ops Q w0 A n rest E L) : WL P ops Q w0 A n rest E L := by
  unfold WL at *
  exact fun a w hF hI => h (hR w hI) a w hF hI
theorem wc_sub {L' : List Blk} {c : Code} (hs : ∃ R, L.Perm (L' ++ R)) (h : WC P Q w0 A n c E L') : WC P Q w0 A n c E L := by
  unfold WC at *
  exact fun a w hF hI => h a w hF (hI.sub hs)
theorem wk_sub {L' : List Blk} (hs : ∃ R, L.Perm (L' ++ R)) (h : WK2 P ops Q w0 A n Ls eff late wt dn todo E L') : WK2 P ops Q w0 A n Ls eff late wt dn todo E L := by
  unfold WK2 at *
  exact fun hns ho a w hF hI => h hns ho a w hF (hI.sub hs)
end

/-- slices.Insert of one element; slices.Delete of the first one. -/
def insM {α : Type} (F : Nat) (xs : List α) (i : Int) (ys : List α) : Option (List α) :=
  if 0 ≤ i ∧ i ≤ (xs.length : Int) ∧ ys.length = 1 ∧ xs.length ≤ 1000 then some (xs.take i.toNat ++ ys ++ xs.drop i.toNat) else none
def delM {α : Type} (F : Nat) (xs : List α) (i j : Int) : Option (List α) :=
  if i = 0 ∧ j = 1 ∧ 2 ≤ xs.length ∧ xs.length ≤ 1000 then some (xs.drop 1) else none

theorem getI_lt {α : Type} {xs : List α} {v : Int} {x : α} (h : getI xs v = some x) : 0 ≤ v ∧ v.toNat < xs.length := by
  obtain ⟨h1, h2⟩ := getI_spec h
  exact ⟨h1, (List.getElem?_eq_some_iff.1 h2).1⟩
theorem getI_set {α : Type} {xs : List α} {v : Int} {x y : α} (h : getI xs v = some x) : getI (setI xs v y) v = some y := by
  obtain ⟨h1, h2⟩ := getI_lt h
  unfold getI setI
  rw [if_pos h1, List.getElem?_set_self h2]

theorem pH {L F pre : List Blk} {p : Blk} (h : L.Perm (pre ++ F)) : (p :: L).Perm ((p :: pre) ++ F) := pCons Sel.hc h
theorem pA {L F pre B : List Blk} (h : L.Perm (pre ++ F)) : (B ++ L).Perm ((B ++ pre) ++ F) := pApp Sel.ha h
theorem sI {α : Type} {a b : α} (h : some a = some b) : a = b := Option.some.inj h
theorem sC {p : Blk} {R X R' : List Blk} (h : Sel R X R') : Sel (p :: R) X (p :: R') := Sel.sc h
theorem sA {B R X R' : List Blk} (h : Sel R X R') : Sel (B ++ R) X (B ++ R') := Sel.sa h
theorem hC {p : Blk} {R : List Blk} : Sel (p :: R) [p] R := Sel.hc
theorem hA' {B R : List Blk} : Sel (B ++ R) B R := Sel.ha
theorem mH {α : Type} {a : α} {l : List α} : a ∈ a :: l := List.Mem.head _
theorem mT {α : Type} {a b : α} {l : List α} (h : a ∈ l) : a ∈ b :: l := List.Mem.tail _ h
theorem wSR {P : Program} {Q : Exit → Act → World → Prop} {w0 : World} {A : List Nat} {n : Nat} {E : List (Nat × Value)} {L : List Blk} {id : Nat} {l : List Oper} {y : Code} (k : WL P l.toArray (Exit.then (y.wp P Q) Q) w0 A n l E L) : WC P Q w0 A n (.seq (.region id l.toArray false) y) E L := wc_seq (wc_region k)
theorem wNT {P : Program} {ops : Array Oper} {Q : Exit → Act → World → Prop} {w0 : World} {A : List Nat} {n : Nat} {E : List (Nat × Value)} {L : List Blk} {y : Code} (k : WC P Q w0 A n y E L) : WL P ops (Exit.then (y.wp P Q) Q) w0 A n [] E L := wl_nil (wx_then k)
theorem pHH {L F pre : List Blk} {p q : Blk} (h : L.Perm (pre ++ F)) : (p :: q :: L).Perm ((p :: q :: pre) ++ F) := pH (pH h)
theorem pH4 {L F pre : List Blk} {p q r s : Blk} (h : L.Perm (pre ++ F)) : (p :: q :: r :: s :: L).Perm ((p :: q :: r :: s :: pre) ++ F) := pHH (pHH h)
theorem pAA {L F pre B C : List Blk} (h : L.Perm (pre ++ F)) : (B ++ (C ++ L)).Perm ((B ++ (C ++ pre)) ++ F) := pA (pA h)
theorem sCC {p q : Blk} {R X R' : List Blk} (h : Sel R X R') : Sel (p :: q :: R) X (p :: q :: R') := sC (sC h)
theorem sAA {B C R X R' : List Blk} (h : Sel R X R') : Sel (B ++ (C ++ R)) X (B ++ (C ++ R')) := sA (sA h)
theorem sCA {p : Blk} {B R X R' : List Blk} (h : Sel R X R') : Sel (p :: (B ++ R)) X (p :: (B ++ R')) := sC (sA h)
theorem sAC {p : Blk} {B R X R' : List Blk} (h : Sel R X R') : Sel (B ++ (p :: R)) X (B ++ (p :: R')) := sA (sC h)
theorem mTT {α : Type} {a b c : α} {l : List α} (h : a ∈ l) : a ∈ b :: c :: l := mT (mT h)
theorem pJ2 {α0 α1 : Type} {a0 b0 : α0} {a1 b1 : α1} (h : some (a0, a1) = some (b0, b1)) : a0 = b0 ∧ a1 = b1 := by
  simp only [Option.some.injEq, Prod.mk.injEq] at h; exact h
theorem pJ3 {α0 α1 α2 : Type} {a0 b0 : α0} {a1 b1 : α1} {a2 b2 : α2} (h : some (a0, a1, a2) = some (b0, b1, b2)) : a0 = b0 ∧ a1 = b1 ∧ a2 = b2 := by
  simp only [Option.some.injEq, Prod.mk.injEq] at h; exact h
theorem pJ4 {α0 α1 α2 α3 : Type} {a0 b0 : α0} {a1 b1 : α1} {a2 b2 : α2} {a3 b3 : α3} (h : some (a0, a1, a2, a3) = some (b0, b1, b2, b3)) : a0 = b0 ∧ a1 = b1 ∧ a2 = b2 ∧ a3 = b3 := by
  simp only [Option.some.injEq, Prod.mk.injEq] at h; exact h
theorem pJ5 {α0 α1 α2 α3 α4 : Type} {a0 b0 : α0} {a1 b1 : α1} {a2 b2 : α2} {a3 b3 : α3} {a4 b4 : α4} (h : some (a0, a1, a2, a3, a4) = some (b0, b1, b2, b3, b4)) : a0 = b0 ∧ a1 = b1 ∧ a2 = b2 ∧ a3 = b3 ∧ a4 = b4 := by
  simp only [Option.some.injEq, Prod.mk.injEq] at h; exact h
theorem pJ6 {α0 α1 α2 α3 α4 α5 : Type} {a0 b0 : α0} {a1 b1 : α1} {a2 b2 : α2} {a3 b3 : α3} {a4 b4 : α4} {a5 b5 : α5} (h : some (a0, a1, a2, a3, a4, a5) = some (b0, b1, b2, b3, b4, b5)) : a0 = b0 ∧ a1 = b1 ∧ a2 = b2 ∧ a3 = b3 ∧ a4 = b4 ∧ a5 = b5 := by
  simp only [Option.some.injEq, Prod.mk.injEq] at h; exact h
theorem pS {L F pre : List Blk} {p q : Blk} (h : (q :: L).Perm (pre ++ F)) : (q :: p :: L).Perm ((p :: pre) ++ F) := pCons (sC hC) h
theorem qS {L F pre B : List Blk} {q : Blk} (h : (q :: L).Perm (pre ++ F)) : (q :: (B ++ L)).Perm ((B ++ pre) ++ F) := pApp (sC hA') h

end Go.Proofs.YtekplmhmppdpcaaDoor.Eng
