/-
  What the rows' listed variables (two tables of bounds) give: their cells, readable throughout.
-/
import Derived.Test.YtkdbpenjkcjimaaGreatDoorRows
import Derived.Test.YtkdbpenjkcjimaaGreatDoorMod
import Derived.Lib.LaidTab
namespace Go.Proofs.YtkdbpenjkcjimaaGreatDoor
open Go.Proofs.YtkdbpenjkcjimaaGreatDoor.Eng Go.RowKit

theorem chunks {m : Nat} : ∀ (zss : List (List Value)) (cs : List Value), cs.length = zss.length * m → (∀ q z, zss[q]? = some z → (cs.drop (q * m)).take m = z) → cs = zss.flatten
  | [], cs, hl, _ => by simpa using hl
  | z :: zss, cs, hl, h => by
    have h0 := h 0 z rfl
    simp only [Nat.zero_mul, List.drop_zero] at h0
    have hr := chunks (m := m) zss (cs.drop m) (by simp at hl ⊢; rw [hl, Nat.add_mul]; omega) (fun q z' hz => by
      have := h (q + 1) z' (by simpa using hz)
      rw [List.drop_drop]
      rw [← this]
      congr 2
      rw [Nat.add_mul]; omega)
    rw [List.flatten_cons, ← hr, ← h0, List.take_append_drop]

theorem cells_of_tab2 {H : Type} {enc : TypeId × Value → H} {P : Program} {w : World} {base : Nat} {sp : Nat → Bool} {held : Bool} {fuel : Nat} {t e f : TypeId} {n m : Nat} {k : IntKind} {cs : List Value} {zss : List (List Int)} {p : List MemPlace}
    (ht : P.underlying t = some (.array n e)) (he : P.underlying e = some (.array m f)) (hf : P.underlying f = some (.int k)) (hcf : P.cellsOf f = 1) (hce : P.cellsOf e = m) (hct : P.cellsOf t = n * m)
    (h : DataW.trod enc P w base sp held fuel t cs = some (.agg (zss.map (Lib.tabData k)), p)) : cs = (zss.map fun zs => zs.map fun z => Value.int k z).flatten := by
  cases fuel with
  | zero => simp [DataW.trod] at h
  | succ fuel =>
    simp only [DataW.trod, ht, hce, hct] at h
    split at h
    · rename_i hl
      obtain ⟨xs, hm, hx⟩ := Option.map_eq_some_iff.1 h
      have hxs : xs.map (·.1) = zss.map (Lib.tabData k) := by
        have := congrArg Prod.fst hx
        simpa using this
      have hxl : xs.length = n := by simpa using Lib.mapM_length hm
      have hzl : zss.length = n := by
        have := congrArg List.length hxs
        simp at this
        omega
      refine chunks (m := m) _ _ (by simp [hzl, hl]) (fun q z hz => ?_)
      simp only [List.getElem?_map, Option.map_eq_some_iff] at hz
      obtain ⟨zs, hz, rfl⟩ := hz
      have hq : q < n := by rw [← hzl]; exact (List.getElem?_eq_some_iff.1 hz).1
      obtain ⟨b, hb, hfb⟩ := Lib.mapM_at hm q q (by simp [hq])
      have h2 : (xs.map (·.1))[q]? = some b.1 := by simp [hb]
      rw [hxs] at h2
      simp only [List.getElem?_map, hz, Option.map_some, Option.some.injEq] at h2
      exact Lib.cells_of_tab (p := b.2) he hf hcf hce (by rw [hfb, h2])
    · cases h

theorem rds_var {W : World} {name : String} {cs : List Value} {g : Nat} (hv : W.var? Tryz.prog name = some cs.toArray) (hg : Tryz.prog.globalNamed name = some g) : Rds W [] [] (some ⟨g, 0, none⟩) (flat (fun _ : Unit => cs) [()]) := by
  have hc : ∀ j u, cs[j]? = some u → W.cell? ⟨g, j, none⟩ = some u := fun j u hu => by
    rw [World.var?_cell hg hv j]
    simpa using hu
  have hfl : flat (fun _ : Unit => cs) [()] = cs := by simp [flat]
  rw [hfl]
  have old : cs ≠ [] → Old W [] ⟨g, 0, none⟩ cs := fun hne => by
    refine ⟨fun _ => ?_, by simp, fun j u hu => by rw [Addr.add_lit, Nat.zero_add]; exact hc j u hu⟩
    obtain ⟨u, hu⟩ : ∃ u, cs[0]? = some u := by
      cases cs with
      | nil => exact absurd rfl hne
      | cons u r => exact ⟨u, rfl⟩
    have := hc 0 u hu
    by_cases hlt : g < W.heap.size
    · exact hlt
    · exfalso
      unfold World.cell? at this
      simp [Array.getElem?_eq_none (Nat.le_of_not_lt hlt)] at this
  refine ⟨fun hne => ⟨rfl, .inr ⟨(old hne).lt hne, by simp⟩⟩, fun w hI => ?_⟩
  intro j u hu
  have hne : cs ≠ [] := by rintro rfl; simp at hu
  exact (old hne).now hI j u hu

def LaidB : List (String × DataW Unit) := [("hindcast/state.playerBounds", Rows.laid_hindcast_state_playerBounds), ("hindcast/state.shotBounds", Rows.laid_hindcast_state_shotBounds)]

theorem laid_cells {W : World} (h : laidMetH Tryz.prog LaidB W) :
    Rds W [] [] (some ⟨0, 0, none⟩) (flat (fun _ : Unit => gl_state_playerBounds) [()]) ∧ Rds W [] [] (some ⟨1, 0, none⟩) (flat (fun _ : Unit => gl_state_shotBounds) [()]) := by
  obtain ⟨ps, ⟨g0, t0, c0, fuel0, p0, q0, hg0, ht0, hv0, hd0, ⟨g1, t1, c1, fuel1, p1, q1, hg1, ht1, hv1, hd1, _, _⟩, _⟩, _⟩ := h
  obtain rfl := Option.some.inj ((show Tryz.prog.globalNamed "hindcast/state.playerBounds" = some 0 by kernel_rfl).symm.trans hg0)
  obtain rfl := Option.some.inj ((show Tryz.prog.globalNamed "hindcast/state.shotBounds" = some 1 by kernel_rfl).symm.trans hg1)
  obtain rfl := Option.some.inj ((show (Tryz.prog.globals[0]?).map (·.type) = some 126 by kernel_rfl).symm.trans ht0)
  obtain rfl := Option.some.inj ((show (Tryz.prog.globals[1]?).map (·.type) = some 127 by kernel_rfl).symm.trans ht1)
  have e0 := cells_of_tab2 (n := 7) (e := 125) (f := 21) (m := 2) (k := .i32) (zss := [[0, 61440], [0, 28672], [-1024, 1024], [-1024, 1024], [1, 100], [0, 30], [0, 3]]) (by kernel_rfl) (by kernel_rfl) (by kernel_rfl) (by kernel_rfl) (by kernel_rfl) (by kernel_rfl) hd0
  have e1 := cells_of_tab2 (n := 6) (e := 125) (f := 21) (m := 2) (k := .i32) (zss := [[0, 65024], [0, 32256], [-2048, 2048], [-2048, 2048], [0, 1], [1, 40]]) (by kernel_rfl) (by kernel_rfl) (by kernel_rfl) (by kernel_rfl) (by kernel_rfl) (by kernel_rfl) hd1
  exact ⟨rds_var (by rw [hv0, show c0 = gl_state_playerBounds.toArray from by apply Array.ext'; exact e0]) hg0, rds_var (by rw [hv1, show c1 = gl_state_shotBounds.toArray from by apply Array.ext'; exact e1]) hg1⟩

end Go.Proofs.YtkdbpenjkcjimaaGreatDoor
