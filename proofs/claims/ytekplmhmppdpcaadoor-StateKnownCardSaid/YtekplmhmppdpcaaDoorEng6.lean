/-
  THE ENGINE, sixth part: a loop whose rounds are walked one by one; a made slice whose cells are known one by one.
-/
import Derived.Test.YtekplmhmppdpcaaDoorEng5
import Derived.LoopN
namespace Go.Proofs.YtekplmhmppdpcaaDoor.Eng
open Go.RowKit
set_option autoImplicit true
set_option relaxedAutoImplicit true
set_option linter.unusedVariables false

section
variable {P : Program} {T : List (Nat × TI)} {ops : Array Oper} {Q : Exit → Act → World → Prop} {rest : List Oper} {E : List (Nat × Value)} {n : Nat} {w0 : World} {A : List Nat} {L : List Blk}

/-- At most m rounds more. -/
def WR (P : Program) (Q : Exit → Act → World → Prop) (w0 : World) (A : List Nat) (n : Nat) (c : Code) (m : Nat) (E : List (Nat × Value)) (L : List Blk) : Prop :=
  ∀ a w, Fr n E a → Inv w0 A w L → Code.rounds P c Q m a w

theorem wc_rounds {c : Code} (m : Nat) (h : WR P Q w0 A n c m E L) : WC P Q w0 A n (.loop c) E L := by
  unfold WC
  exact fun a w hF hI => wp_loop_rounds m (h a w hF hI)
theorem wr_step {c : Code} {m : Nat} (h : WC P (Exit.then (Code.rounds P c Q m) Q) w0 A n c E L) : WR P Q w0 A n c (m + 1) E L := by
  unfold WC at h
  exact h
theorem wx_again {c : Code} {m : Nat} (h : WR P Q w0 A n c m E L) : WX (Exit.then (Code.rounds P c Q m) Q) w0 A n .normal E L := by
  unfold WX
  exact h

/-- An element of a slice, its number being known. -/
theorem val_ixb (hT : TabOk P T) {t e : TypeId} {s1 b1 size by' nx : Nat} {z1 z : Option (List Value)} {td : TD} {x i : Operand} {b o o' j cap : Nat} {k : IntKind} {v : Int} {ty : TypeId}
    (hlt : lookT T t = some ⟨.slice e, s1, b1, z1⟩) (hle : lookT T e = some ⟨td, size, by', z⟩)
    (hx : evO E x = some (.slice (some ⟨b, o, none⟩) nx cap)) (hi : evO E i = some (.int k v)) (hv : v = (j : Int)) (hj : Nat.blt j nx = true) (hq : o + j * size = o') :
    Val P w0 A n E L (.indexAddr t x i) ty (.pointer (some ⟨b, o', none⟩)) := by
  subst hq
  intro a' w hF hI d pos aft g
  obtain ⟨xt, hxt, hft, hpu⟩ := (hT.at hlt).und w
  simp only [TD.fits] at hft
  subst hft
  have hj' : j < nx := by simpa using hj
  refine run_v ?_
  rw [hF.eval hx, hF.eval hi, hv]
  unfold Instr.indexAt
  simp only [asIntOf, Sem.run_bind, Sem.run_pure, Result.andThen, hxt]
  rw [if_pos ⟨Int.natCast_nonneg j, by omega⟩]
  simp only [Sem.run_bind, (hT.at hle).size w, Result.andThen, Sem.run_pure, Int.toNat_natCast]
  simp [Addr.add_lit]

/-- make([]T, k), k being known: a new block. -/
theorem chg_mkob (hT : TabOk P T) {t e : TypeId} {s1 b1 size by' k : Nat} {z1 : Option (List Value)} {z cs : List Value} {td : TD} {l c : Operand} {kl kc : IntKind} {v : Int} {ty : TypeId}
    (hlt : lookT T t = some ⟨.slice e, s1, b1, z1⟩) (hle : lookT T e = some ⟨td, size, by', some z⟩) (hbs : Nat.ble by' 4096 = true) (hl : evO E l = some (.int kl v)) (hc : evO E c = some (.int kc v))
    (hv : v = (k : Int)) (hk : Nat.ble k 65536 = true) (hzl : z.length = size) (hcs : repO k z = cs) :
    Chg P w0 A n E L (.makeSlice t l c) ty (fun u L' => ∃ b, u = .slice (some ⟨b, 0, none⟩) k k ∧ L' = ⟨b, cs, e, (0, 0)⟩ :: L) := by
  subst hv hcs
  have hk : k ≤ 65536 := Nat.le_of_ble_eq_true hk
  intro ac w hF hI d pos aft g
  obtain ⟨i, hi, hsz, hby, hzz⟩ := (hT.at hle).info
  obtain ⟨zv, hzv, hzc⟩ := hzz z rfl
  obtain ⟨xt, hxt, hft⟩ := (hT.at hlt).under
  simp only [TD.fits] at hft
  subst hft
  simp only at hsz hby
  have hb' : by' ≤ 4096 := Nat.le_of_ble_eq_true hbs
  have hmul : by' * k ≤ 4096 * 65536 := Nat.mul_le_mul hb' hk
  have hm2 : ((by' * k : Nat) : Int) ≤ 281474976710656 := by omega
  have hr := run_make (P := P) w t e i zv hxt hi hzv kl kc (k : Int) (k : Int) (Int.natCast_nonneg k) (Int.le_refl _) (by rw [hby, ← Int.natCast_mul]; exact hm2) (by omega)
  simp only [Int.toNat_natCast] at hr ⊢
  have hmade : madeCells zv.cells (k * i.size) = (repO k z).toArray := by
    rw [hsz, hzc]
    unfold madeCells
    apply Array.ext'
    apply List.ext_getElem?
    intro j
    simp only [Array.toList_map, Array.toList_range, List.getElem?_map]
    rcases Nat.lt_or_ge j (k * size) with h1 | h1
    · have h0 : 0 < size := by
        rcases Nat.eq_zero_or_pos size with h | h
        · rw [h] at h1; simp at h1
        · exact h
      rw [List.getElem?_range h1, repO_get z (by omega) k j (by rw [hzl]; exact h1)]
      simp only [Option.map_some, List.size_toArray]
      have h2 : j % z.length < z.length := Nat.mod_lt _ (by omega)
      rw [List.getElem?_eq_getElem h2]
      congr 1
      simp [h2]
    · rw [List.getElem?_eq_none (by simpa using h1), List.getElem?_eq_none (by rw [repO_length, hzl]; exact h1)]
      rfl
  rw [hmade] at hr
  refine ⟨.value (.slice (some ⟨w.heap.size, 0, none⟩) k k), _, _, _, ?_, .inl rfl, hI.alloc (repO k z) e, w.heap.size, rfl, rfl⟩
  refine (Sem.run_bind _ _ _ _).trans ?_
  show Result.andThen ((Instr.makeSlice t (ac.eval l) (ac.eval c)).run P w) _ = _
  rw [hF.eval hl, hF.eval hc, hr]
  rfl
end
end Go.Proofs.YtekplmhmppdpcaaDoor.Eng
