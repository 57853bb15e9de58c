/-
  THE ENGINE, fourth part: copies and clears within a block, cell by cell (for slices.Insert, slices.Delete).
-/
import Derived.Test.YthlnellnlhkphaaDoorEng2
import Derived.Laws.Externs
namespace Go.Proofs.YthlnellnlhkphaaDoor.Eng
open Go.RowKit
set_option autoImplicit true
set_option relaxedAutoImplicit true
set_option linter.unusedVariables false

section
variable {P : Program} {T : List (Nat × TI)} {E : List (Nat × Value)} {n : Nat} {w0 : World} {A : List Nat} {L L' R B : List Blk}

/-- A copy into a known block: k elements, whose cells S can be read where the source stands, are laid from o on. -/
theorem chg_copyR (hT : TabOk P T) {s x : Operand} {t u e ty : TypeId} {b o n1 c1 n2 c2 size by' s1 b1 k : Nat} {a1 : Addr} {td : TD} {z1 z2 : Option (List Value)} {C C' S : List Value} {t' : TypeId}
    (hlt : lookT T t = some ⟨.slice e, s1, b1, z1⟩) (hle : lookT T e = some ⟨td, size, by', z2⟩)
    (hs : evO E s = some (.slice (some ⟨b, o, none⟩) n1 c1)) (hx : evO E x = some (.slice (some a1) n2 c2)) (hk : Nat.min n2 n1 = k)
    (hU : Upd L ⟨b, C, t', (0, 0)⟩ ⟨b, C', t', (0, 0)⟩ L') (hS : S.length = k * size) (hr : ∀ w, Inv w0 A w L → ∀ j u, S[j]? = some u → w.cell? (a1.add j) = some u)
    (hC : o + k * size ≤ C.length) (hC' : C' = C.take o ++ S ++ C.drop (o + k * size)) (h1 : allOne S = true) :
    Chg P w0 A n E L (.call ⟨.builtin .copy, #[s, x], #[t, u]⟩) ty (fun v L'' => v = .int .i64 (k : Int) ∧ L'' = L') := by
  intro ac w hF hI d pos aft g
  obtain ⟨xt, hxt, hft⟩ := (hT.at hlt).under
  simp only [TD.fits] at hft
  subst hft
  have hfc : (Builtin.firstCells size k (.slice (some a1) n2 c2)).run P w = .ok S.toArray w := run_firstCells_some (P := P) w size k a1 n2 c2 S hS (hr w hI)
  have hsize := fun w => (hT.at hle).size w
  simp only at hsize
  have hown := hI.own _ hU.mem
  simp only at hown
  have hst := run_storeCells_at P b o t' S 0 C.toArray w hown (by simp; omega) (allOne_eq h1)
  simp only [Nat.add_zero, List.toList_toArray] at hst
  rw [hS, ← hC'] at hst
  refine ⟨_, _, _, _, ?_, .inl rfl, hI.setRow hU, rfl, rfl⟩
  rw [exec_builtin]
  have e2 : (#[s, x] : Array Operand).map ac.eval = #[.slice (some ⟨b, o, none⟩) n1 c1, .slice (some a1) n2 c2] := by simp [hF.eval hs, hF.eval hx]
  rw [e2]
  show ((Builtin.copy_ #[t, u] ty #[.slice (some ⟨b, o, none⟩) n1 c1, .slice (some a1) n2 c2]) >>= fun x => (pure (Next.value x) : Sem Next)).run P w = _
  have hc : (Builtin.copy_ #[t, u] ty #[.slice (some ⟨b, o, none⟩) n1 c1, .slice (some a1) n2 c2]).run P w = .ok (.int .i64 (k : Int)) (w.setRow b C'.toArray) := by
    simp [Builtin.copy_, run_underlying hxt, Builtin.lenOf, hsize, hk, goInt]
    simp [hfc, hst]
  rw [Sem.run_bind, hc]
  rfl

/-- 'append(xs, ys...)' where there is no room: what is made is memory of its own; what stood stands. -/
theorem chg_appG {α : Type} {enc : α → List Value} (hT : TabOk P T) {s x : Operand} {t e ty : TypeId} {b0 : Addr} {a1 : Option Addr} {cap c1 size by' s1 b1 nx ny : Nat} {z : List Value} {td : TD} {z1 : Option (List Value)} {xs ys zs : List α} {B0 B1 : List Blk}
    (hlt : lookT T t = some ⟨.slice e, s1, b1, z1⟩) (hle : lookT T e = some ⟨td, size, by', some z⟩) (hzl : z.length = size) (hbs : Nat.ble by' 4096 = true)
    (hs : evO E s = some (.slice (some b0) nx cap)) (hx : evO E x = some (.slice a1 ny c1)) (hn : nx = xs.length) (hny : ny = ys.length) (hcap : nx ≤ cap) (hgrow : cap < nx + ny) (hr0 : Rds w0 A B0 (some b0) (flat enc xs)) (hB0 : ∃ R, L.Perm (B0 ++ R))
    (hr : Rds w0 A B1 a1 (flat enc ys)) (hB1 : ∃ R, L.Perm (B1 ++ R)) (he : ∀ x, (enc x).length = size) (h1 : ∀ x, allOne (enc x) = true) (hpos : Nat.blt 0 size = true) (hg : appI xs ys = some zs) :
    Chg P w0 A n E L (.call ⟨.builtin .append, #[s, x], #[t, t]⟩) ty (fun v L' => ∃ a' n' cap' B', v = .slice a' n' cap' ∧ n' = zs.length ∧ Own e size a' n' cap' (flat enc zs) B' ∧ L' = B' ++ L) := by
  subst hn; subst hny
  unfold appI at hg
  split at hg
  rotate_left
  · cases hg
  rename_i hc
  simp only [Option.some.injEq] at hg
  subst hg
  have hpos' : 0 < size := by simpa using hpos
  intro ac w hF hI d pos aft g
  obtain ⟨i, hi, hsz, hb, hz⟩ := (hT.at hle).info
  obtain ⟨zv, hzv, hzc⟩ := hz z rfl
  obtain ⟨xt, hxt, hft⟩ := (hT.at hlt).under
  simp only [TD.fits] at hft
  subst hft
  simp only at hsz hb
  have hrun : ∀ v' w', (Builtin.append_ #[t, t] ty #[.slice (some b0) xs.length cap, .slice a1 ys.length c1]).run P w = .ok v' w' → (execOp ac.eval ⟨d, .call ⟨.builtin .append, #[s, x], #[t, t]⟩, ty, pos, aft, g⟩).run P w = .ok (.value v') w' := by
    intro v' w' hr
    rw [exec_builtin]
    have e2 : (#[s, x] : Array Operand).map ac.eval = #[.slice (some b0) xs.length cap, .slice a1 ys.length c1] := by simp [hF.eval hs, hF.eval hx]
    rw [e2]
    show ((Builtin.append_ #[t, t] ty #[.slice (some b0) xs.length cap, .slice a1 ys.length c1]) >>= fun x => (pure (Next.value x) : Sem Next)).run P w = _
    rw [Sem.run_bind, hr]
    rfl
  have h0 : 0 < ys.length := by omega
  have hfy : (flat enc ys).length = ys.length * size := flat_length he ys
  have hne : flat enc ys ≠ [] := by
    intro h2
    rw [h2] at hfy
    have h3 : 0 < ys.length * size := Nat.mul_pos h0 hpos'
    simp only [List.length_nil] at hfy
    omega
  obtain ⟨ad, rfl⟩ := Option.isSome_iff_exists.1 (hr.there hne).1
  have hnews : ∀ j u, (flat enc ys)[j]? = some u → w.cell? (ad.add j) = some u := fun j u hj => hr.up hI hB1 j u hj
  have hb' : by' ≤ 4096 := Nat.le_of_ble_eq_true hbs
  have hmul : (xs.length + ys.length) * by' ≤ 140737488355328 := by
    have : (xs.length + ys.length) * by' ≤ 1073741824 * 4096 := Nat.mul_le_mul hc hb'
    omega
  have hlen : (flat enc (xs ++ ys)).length = (xs.length + ys.length) * size := by rw [flat_length he, List.length_append]
  have hfresh : ∀ old, ∃ B' L', Inv w0 A (w.drew.alloc (.cells ((flat enc xs).toArray ++ (flat enc ys).toArray ++ Builtin.zeroCells zv.cells (grownCap w (xs.length + ys.length) old e - (xs.length + ys.length))) e)) L' ∧
      Own e size (some ⟨w.heap.size, 0, Option.none⟩) (xs.length + ys.length) (grownCap w (xs.length + ys.length) old e) (flat enc (xs ++ ys)) B' ∧ L' = B' ++ L := by
    intro old
    have hge := grownCap_ge w (xs.length + ys.length) old e
    have h2 := hI.fresh (show L.Perm ([] ++ L) from List.Perm.refl _) (flat enc xs ++ flat enc ys ++ (Builtin.zeroCells zv.cells (grownCap w (xs.length + ys.length) old e - (xs.length + ys.length))).toList) e (w.drawn + 1)
    refine ⟨[⟨w.heap.size, flat enc xs ++ flat enc ys ++ (Builtin.zeroCells zv.cells (grownCap w (xs.length + ys.length) old e - (xs.length + ys.length))).toList, e, (0, 0)⟩], _, ?_, ⟨hlen, .inr ⟨_, [], _, rfl, hge, grownCap_le_maxLen w _ old e (by simp only [maxLen]; omega), ?_, by rw [← flat_append]; rfl⟩⟩, rfl⟩
    · have e3 : ((flat enc xs).toArray ++ (flat enc ys).toArray ++ Builtin.zeroCells zv.cells (grownCap w (xs.length + ys.length) old e - (xs.length + ys.length))) = (flat enc xs ++ flat enc ys ++ (Builtin.zeroCells zv.cells (grownCap w (xs.length + ys.length) old e - (xs.length + ys.length))).toList).toArray := by apply Array.ext'; simp
      rw [e3]
      exact h2
    · have hz2 : ∀ m, (Builtin.zeroCells zv.cells m).toList.length = m * size := fun m => by rw [Array.length_toList, size_zeroCells, hzc]; simp [hzl]
      rw [List.length_append, hlen, hz2, ← Nat.add_mul]
      congr 1
      omega
  have fin : ∀ old, (Builtin.append_ #[t, t] ty #[.slice (some b0) xs.length cap, .slice (some ad) ys.length c1]).run P w = .ok (.slice (some ⟨w.heap.size, 0, Option.none⟩) (xs.length + ys.length) (grownCap w (xs.length + ys.length) old e)) (w.drew.alloc (.cells ((flat enc xs).toArray ++ (flat enc ys).toArray ++ Builtin.zeroCells zv.cells (grownCap w (xs.length + ys.length) old e - (xs.length + ys.length))) e)) →
      ∃ nx w' v L', (execOp ac.eval ⟨d, .call ⟨.builtin .append, #[s, x], #[t, t]⟩, ty, pos, aft, g⟩).run P w = .ok nx w' ∧ (nx = .value v ∨ (nx = .skip ∧ v = undef)) ∧ Inv w0 A w' L' ∧ ∃ a' n' cap' B', v = .slice a' n' cap' ∧ n' = (xs ++ ys).length ∧ Own e size a' n' cap' (flat enc (xs ++ ys)) B' ∧ L' = B' ++ L := by
    intro old hr
    obtain ⟨B', L', hI', hV', rfl⟩ := hfresh old
    exact ⟨_, _, _, _, hrun _ _ hr, .inl rfl, hI', _, _, _, B', rfl, by rw [List.length_append], hV', rfl⟩
  have hfx : (flat enc xs).length = xs.length * size := flat_length he xs
  refine fin cap (run_append_grow (P := P) w t ty e i zv hxt hi hzv b0 xs.length cap (flat enc xs) (by rw [hsz]; exact hfx) ?_ ad ys.length c1 (flat enc ys) (by rw [hsz]; exact hfy) hnews (by omega) (by omega) (by rw [hb]; exact growslice_fits (by omega) hmul))
  intro j u hu
  exact hr0.up hI hB0 j u hu

/-- The run of an append of n zeros where there is no room. -/
theorem run_append_grow_zeros {P : Program} (w : World) (t tn ty e : TypeId) (i : TypeInfo) (z : Value) (k kn : IntKind) (ht : P.underlying t = some (.slice e)) (htn : P.underlying tn = some (.int kn)) (hi : P.info? e = some i) (hz : i.zero = some z)
    (b : Addr) (sLen sCap : Nat) (olds : List Value) (hlo : olds.length = sLen * i.size) (holds : ∀ j v, olds[j]? = some v → w.cell? (b.add j) = some v)
    (m : Nat) (hm : 0 < m) (hs : 0 < i.size) (hg : sCap < sLen + m) (h63 : ((sLen + m : Nat) : Int) ≤ 9223372036854775807) (h48 : m * i.bytes ≤ 281474976710656) (hfit : Builtin.nextslicecap (sLen + m) sCap * i.bytes ≤ 281474976710656) :
    (Builtin.append_ #[t, tn] ty #[.slice (some b) sLen sCap, .int k m]).run P w =
      .ok (.slice (some ⟨w.heap.size, 0, none⟩) (sLen + m) (grownCap w (sLen + m) sCap e))
        (w.drew.alloc (.cells (olds.toArray ++ Builtin.zeroCells z.cells m ++ Builtin.zeroCells z.cells (grownCap w (sLen + m) sCap e - (sLen + m))) e)) := by
  have hn : ¬ (sLen + m ≤ sCap) := by omega
  have h63' : ¬ (9223372036854775807 < ((sLen : Int) + (m : Int))) := by omega
  have h48' : ¬ (281474976710656 < Builtin.nextslicecap (sLen + m) sCap * i.bytes) := by omega
  have hw : IntKind.i64.wrap (m : Int) = m := by rw [IntKind.wrap_i64]; omega
  have h63m : ¬ (9223372036854775807 < (m : Int)) := by omega
  have h48i : ¬ (281474976710656 < (m : Int) * (i.bytes : Int)) := by
    rw [← Int.natCast_mul]
    omega
  have hneg : ¬ ((m : Int) < 0) := by omega
  have hm0 : m ≠ 0 := by omega
  have hns : ¬ (m * i.size = 0) := Nat.mul_ne_zero hm0 (by omega)
  have hfo := run_firstCells_some (P := P) w.drew i.size sLen b sLen sCap olds hlo (by simpa using holds)
  simp [Builtin.append_, run_underlying ht, run_underlying htn, sizeOf, typeInfo, zeroValue, hi, hz, asInt, asIntOf, hw, hm0, hneg, hns, hn, h63', h63m, h48', h48i, Question.forced, hfo, newRow, grownCap]

theorem allOne_append {l m : List Value} (h1 : allOne l = true) (h2 : allOne m = true) : allOne (l ++ m) = true := by
  induction l with
  | nil => exact h2
  | cons y l ih => simp only [allOne, Bool.and_eq_true, List.cons_append] at *; exact ⟨h1.1, ih h1.2⟩
theorem allOne_repO {z : List Value} (h : allOne z = true) : ∀ k, allOne (repO k z) = true
  | 0 => rfl
  | k + 1 => allOne_append h (allOne_repO h k)
theorem zeroCells_repO {z : List Value} (hz : 0 < z.length) (k : Nat) : (Builtin.zeroCells z.toArray k).toList = repO k z := by
  unfold Builtin.zeroCells
  apply List.ext_getElem?
  intro j
  simp only [Array.toList_map, Array.toList_range, List.getElem?_map]
  rcases Nat.lt_or_ge j (k * z.length) with h1 | h1
  · rw [List.size_toArray, List.getElem?_range h1, repO_get z hz k j h1]
    simp only [Option.map_some, List.size_toArray]
    have h2 : j % z.length < z.length := Nat.mod_lt _ (by omega)
    rw [List.getElem?_eq_getElem h2]
    congr 1
    simp [h2]
  · rw [List.getElem?_eq_none (by simpa using h1), List.getElem?_eq_none (by rw [repO_length]; exact h1)]
    rfl

/-- An append of m zeros where there is no room: what is made is memory of its own; what stood stands. -/
theorem chg_appZ {α : Type} {enc : α → List Value} (hT : TabOk P T) {s x : Operand} {t tn e ty : TypeId} {b0 : Addr} {cap size by' s1 b1 s2 b2 nx m : Nat} {k : IntKind} {v : Int} {z : List Value} {td : TD} {z1 z2 : Option (List Value)} {xs : List α} {y : α} {B0 : List Blk}
    (hlt : lookT T t = some ⟨.slice e, s1, b1, z1⟩) (hltn : lookT T tn = some ⟨.int .i64, s2, b2, z2⟩) (hle : lookT T e = some ⟨td, size, by', some z⟩) (hz : z = enc y) (hbs : Nat.ble by' 4096 = true)
    (hs : evO E s = some (.slice (some b0) nx cap)) (hx : evO E x = some (.int k v)) (hv : v = (m : Int)) (hm : 0 < m) (hn : nx = xs.length) (hcap : nx ≤ cap) (hgrow : cap < nx + m) (hmax : nx + m ≤ 1073741824)
    (hr0 : Rds w0 A B0 (some b0) (flat enc xs)) (hB0 : ∃ R, L.Perm (B0 ++ R)) (he : ∀ x, (enc x).length = size) (hpos : Nat.blt 0 size = true) :
    Chg P w0 A n E L (.call ⟨.builtin .append, #[s, x], #[t, tn]⟩) ty (fun v L' => ∃ a' n' cap' B', v = .slice a' n' cap' ∧ n' = (xs ++ List.replicate m y).length ∧ Own e size a' n' cap' (flat enc (xs ++ List.replicate m y)) B' ∧ L' = B' ++ L) := by
  subst hn; subst hv
  have hpos' : 0 < size := by simpa using hpos
  have hzl : z.length = size := by rw [hz, he]
  intro ac w hF hI d pos aft g
  obtain ⟨i, hi, hsz, hb, hzz⟩ := (hT.at hle).info
  obtain ⟨zv, hzv, hzc⟩ := hzz z rfl
  obtain ⟨xt, hxt, hft⟩ := (hT.at hlt).under
  obtain ⟨xn, hxn, hfn⟩ := (hT.at hltn).under
  simp only [TD.fits] at hft hfn
  subst hft; subst hfn
  simp only at hsz hb
  have hb' : by' ≤ 4096 := Nat.le_of_ble_eq_true hbs
  have hmul : (xs.length + m) * by' ≤ 140737488355328 := by
    have : (xs.length + m) * by' ≤ 1073741824 * 4096 := Nat.mul_le_mul hmax hb'
    omega
  have hmul2 : m * by' ≤ 140737488355328 := by
    have : m * by' ≤ 1073741824 * 4096 := Nat.mul_le_mul (by omega) hb'
    omega
  have hfx : (flat enc xs).length = xs.length * size := flat_length he xs
  have hr := run_append_grow_zeros (P := P) w t tn ty e i zv k .i64 hxt hxn hi hzv b0 xs.length cap (flat enc xs) (by rw [hsz]; exact hfx) (fun j u hu => hr0.up hI hB0 j u hu) m hm (by omega) hgrow (by omega) (by rw [hb]; omega) (by rw [hb]; exact growslice_fits hgrow hmul)
  have hz0 : (Builtin.zeroCells zv.cells m).toList = flat enc (List.replicate m y) := by
    rw [hzc, zeroCells_repO (by omega), hz, flat_replicate]
  have hge := grownCap_ge w (xs.length + m) cap e
  have hlen : (flat enc (xs ++ List.replicate m y)).length = (xs.length + m) * size := by rw [flat_length he, List.length_append, List.length_replicate]
  have e3 : ((flat enc xs).toArray ++ Builtin.zeroCells zv.cells m ++ Builtin.zeroCells zv.cells (grownCap w (xs.length + m) cap e - (xs.length + m))) = (flat enc (xs ++ List.replicate m y) ++ (Builtin.zeroCells zv.cells (grownCap w (xs.length + m) cap e - (xs.length + m))).toList).toArray := by
    apply Array.ext'
    simp [flat_append, hz0]
  rw [e3] at hr
  have h2 := hI.fresh (show L.Perm ([] ++ L) from List.Perm.refl _) (flat enc (xs ++ List.replicate m y) ++ (Builtin.zeroCells zv.cells (grownCap w (xs.length + m) cap e - (xs.length + m))).toList) e (w.drawn + 1)
  refine ⟨_, _, _, _, ?_, .inl rfl, h2, some ⟨w.heap.size, 0, none⟩, xs.length + m, grownCap w (xs.length + m) cap e, [_], rfl, by rw [List.length_append, List.length_replicate], ⟨hlen, .inr ⟨_, [], _, rfl, hge, grownCap_le_maxLen w _ cap e (by simp only [maxLen]; omega), ?_, rfl⟩⟩, rfl⟩
  · rw [exec_builtin]
    have e2 : (#[s, x] : Array Operand).map ac.eval = #[.slice (some b0) xs.length cap, .int k (m : Int)] := by simp [hF.eval hs, hF.eval hx]
    rw [e2]
    show ((Builtin.append_ #[t, tn] ty #[.slice (some b0) xs.length cap, .int k (m : Int)]) >>= fun x => (pure (Next.value x) : Sem Next)).run P w = _
    rw [Sem.run_bind, hr]
    rfl
  · have hz2 : ∀ q, (Builtin.zeroCells zv.cells q).toList.length = q * size := fun q => by rw [Array.length_toList, size_zeroCells, hzc]; simp [hzl]
    rw [List.length_append, hlen, hz2, ← Nat.add_mul]
    congr 1
    omega

/-- A part of a slice, up to its capacity; what its cells are is not asked. -/
theorem val_cutR (hT : TabOk P T) {t e : TypeId} {s1 b1 size by' : Nat} {z1 z : Option (List Value)} {td : TD} {x : Operand} {lo hi : Option Operand} {a : Addr} {cap nx i j : Nat} {ty : TypeId}
    (hlt : lookT T t = some ⟨.slice e, s1, b1, z1⟩) (hle : lookT T e = some ⟨td, size, by', z⟩)
    (hx : evO E x = some (.slice (some a) nx cap))
    (hl : (lo = none ∧ i = 0) ∨ ∃ y k, lo = some y ∧ evO E y = some (.int k (i : Int))) (hh : (hi = none ∧ j = nx) ∨ ∃ y k, hi = some y ∧ evO E y = some (.int k (j : Int)))
    (hij : i ≤ j) (hj : j ≤ cap) (hi' : i < cap) :
    Val P w0 A n E L (.slice t x lo hi none) ty (.slice (some (a.add (i * size))) (j - i) (cap - i)) := by
  intro ac w hF hI d pos aft g
  obtain ⟨xt, hxt, hft, hpu⟩ := (hT.at hlt).und w
  simp only [TD.fits] at hft
  subst hft
  refine run_v ?_
  rw [hF.eval hx]
  have e1 : (Instr.sliceAt t (.slice (some a) nx cap) (lo.map ac.eval) (hi.map ac.eval) none).run P w = (Instr.slice t (.slice (some a) nx cap) (lo.map ac.eval) (hi.map ac.eval) none).run P w := by
    unfold Instr.sliceAt
    rw [Sem.run_bind, hxt]
    rfl
  refine Eq.trans e1 ?_
  unfold Instr.slice
  rw [runM hxt]
  have e2 : (Instr.sliceBounds true nx cap (lo.map ac.eval) (hi.map ac.eval) none).run P w = .ok (i, j, cap) w := by
    unfold Instr.sliceBounds
    rcases hh with ⟨rfl, hh0⟩ | ⟨y2, k2, rfl, hy2⟩ <;> rcases hl with ⟨rfl, hl0⟩ | ⟨y1, k1, rfl, hy1⟩
    · subst hl0; subst hh0; simp
    · subst hh0; simp [hF.eval hy1, run_bound hij]
    · subst hl0; simp [hF.eval hy2, run_bound hj]
    · simp [hF.eval hy1, hF.eval hy2, run_bound hij, run_bound hj]
  simp only [Sem.run_bind, e2, Result.andThen, (hT.at hle).size w, Sem.run_pure]
  have : ¬ cap = i := by omega
  simp [this]

/-- Elements of a known block are cleared. -/
theorem chg_clearR (hT : TabOk P T) {s : Operand} {t e ty : TypeId} {b o n1 c1 size by' s1 b1 : Nat} {td : TD} {z1 : Option (List Value)} {z C C' : List Value} {t' : TypeId}
    (hlt : lookT T t = some ⟨.slice e, s1, b1, z1⟩) (hle : lookT T e = some ⟨td, size, by', some z⟩)
    (hs : evO E s = some (.slice (some ⟨b, o, none⟩) n1 c1)) (hn : 0 < n1) (hz : z.length = size) (hz0 : 0 < z.length)
    (hU : Upd L ⟨b, C, t', (0, 0)⟩ ⟨b, C', t', (0, 0)⟩ L') (hC : o + n1 * size ≤ C.length) (hC' : C' = C.take o ++ repO n1 z ++ C.drop (o + n1 * size)) (h1 : allOne z = true) :
    Chg P w0 A n E L (.call ⟨.builtin .clear, #[s], #[t]⟩) ty (fun v L'' => L'' = L') := by
  intro ac w hF hI d pos aft g
  obtain ⟨xt, hxt, hft⟩ := (hT.at hlt).under
  simp only [TD.fits] at hft
  subst hft
  obtain ⟨zv, hzv, hzc⟩ := (hT.at hle).zero z rfl w
  have hown := hI.own _ hU.mem
  simp only at hown
  have hrl : (repO n1 z).length = n1 * size := by rw [repO_length, hz]
  have hra : allOne (repO n1 z) = true := allOne_repO h1 n1
  have hst := run_storeCells_at P b o t' (repO n1 z) 0 C.toArray w hown (by simp; omega) (allOne_eq hra)
  simp only [Nat.add_zero, List.toList_toArray] at hst
  rw [hrl, ← hC'] at hst
  refine ⟨.value (.tuple #[]), w.setRow b C'.toArray, .tuple #[], L', ?_, .inl rfl, hI.setRow hU, rfl⟩
  rw [exec_builtin]
  have e2 : (#[s] : Array Operand).map ac.eval = #[.slice (some ⟨b, o, none⟩) n1 c1] := by simp [hF.eval hs]
  rw [e2]
  show ((Builtin.clear_ #[t] ty #[.slice (some ⟨b, o, none⟩) n1 c1]) >>= fun x => (pure (Next.value x) : Sem Next)).run P w = _
  have hc : (Builtin.clear_ #[t] ty #[.slice (some ⟨b, o, none⟩) n1 c1]).run P w = .ok (.tuple #[]) (w.setRow b C'.toArray) := by
    obtain ⟨m, rfl⟩ : ∃ m, n1 = m + 1 := ⟨n1 - 1, by omega⟩
    simp [Builtin.clear_, run_underlying hxt, hzv, hzc, zeroCells_repO hz0, hst]
  rw [Sem.run_bind, hc]
  rfl

/-- 'append(xs, ys...)' into spare cells: in place. -/
theorem chg_appR (hT : TabOk P T) {s x : Operand} {t e ty : TypeId} {b o nx cap m c1 size by' s1 b1 : Nat} {a1 : Addr} {td : TD} {z1 z2 : Option (List Value)} {C C' S : List Value}
    (hlt : lookT T t = some ⟨.slice e, s1, b1, z1⟩) (hle : lookT T e = some ⟨td, size, by', z2⟩)
    (hs : evO E s = some (.slice (some ⟨b, o, none⟩) nx cap)) (hx : evO E x = some (.slice (some a1) m c1)) (hroom : nx + m ≤ cap)
    (hU : Upd L ⟨b, C, e, (0, 0)⟩ ⟨b, C', e, (0, 0)⟩ L') (hS : S.length = m * size) (hr : ∀ w, Inv w0 A w L → ∀ j u, S[j]? = some u → w.cell? (a1.add j) = some u)
    (hC : o + nx * size + m * size ≤ C.length) (hC' : C' = C.take (o + nx * size) ++ S ++ C.drop (o + nx * size + m * size)) (h1 : allOne S = true) :
    Chg P w0 A n E L (.call ⟨.builtin .append, #[s, x], #[t, t]⟩) ty (fun v L'' => v = .slice (some ⟨b, o, none⟩) (nx + m) cap ∧ L'' = L') := by
  intro ac w hF hI d pos aft g
  obtain ⟨i, hi, hsz, hb, hz⟩ := (hT.at hle).info
  obtain ⟨xt, hxt, hft⟩ := (hT.at hlt).under
  simp only [TD.fits] at hft
  subst hft
  simp only at hsz hb
  have hown := hI.own _ hU.mem
  simp only at hown
  have hrun := run_append_room_off (P := P) (ty := ty) hxt hi hown (news := S) (m := m) (c := c1) (by rw [hsz]; exact hS) (hr w hI) (allOne_eq h1) hroom (by rw [hsz, hS]; simpa using hC)
  rw [hsz, hS] at hrun
  simp only [List.toList_toArray, ← hC'] at hrun
  refine ⟨_, _, _, _, ?_, .inl rfl, hI.setRow hU, rfl, rfl⟩
  rw [exec_builtin]
  have e2 : (#[s, x] : Array Operand).map ac.eval = #[.slice (some ⟨b, o, none⟩) nx cap, .slice (some a1) m c1] := by simp [hF.eval hs, hF.eval hx]
  rw [e2]
  show ((Builtin.append_ #[t, t] ty #[.slice (some ⟨b, o, none⟩) nx cap, .slice (some a1) m c1]) >>= fun x => (pure (Next.value x) : Sem Next)).run P w = _
  rw [Sem.run_bind, hrun]
  rfl

/-- The model's entry for slices.overlaps, of two rows of plain memory in two blocks. -/
theorem run_overlaps {P : Program} (w : World) (tS tR e : TypeId) (ht : P.underlying tS = some (.slice e)) (size : Nat) (hz : ∀ w, (Go.sizeOf e).run P w = .ok size w)
    (a b : Addr) (la ca lb cb : Nat) (hne : a.block ≠ b.block) (tA tB : TypeId) (kA kB : Nat)
    (hsa : w.shape? a.block = some (tA, kA)) (hsb : w.shape? b.block = some (tB, kB)) (hkB : kB ≠ 0)
    (hfa : w.frozen? a = false) (hfe : w.frozen? { block := a.block, off := kA } = false) :
    (Extern.SlicesOverlaps.overlaps #[tS, tS] #[tR] #[.slice (some a) la ca, .slice (some b) lb cb]).run P w = .ok (.bool false) w := by
  have h1 : (a.block != b.block) = true := by simpa using hne
  have h2 : (a.block == b.block) = false := by simpa using hne
  obtain ⟨k, rfl⟩ := Nat.exists_eq_succ_of_ne_zero hkB
  delta Extern.SlicesOverlaps.overlaps
  dsimp only [List.getElem?_toArray, List.getElem?_cons_zero]
  delta Extern.SlicesOverlaps.overlaps.match_4
  dsimp only [Array.getLit, List.getElem_toArray, List.getElem_cons_zero, List.getElem_cons_succ]
  delta Extern.SlicesOverlaps.overlaps._sparseCasesOn_4
  dsimp only
  by_cases h0 : la = 0 ∨ lb = 0 ∨ size = 0
  · simp [run_underlying ht, hz, h0]
  · simp [run_underlying ht, hz, h0, h1, h2, frozen, noView, viewAt, mayBeOne, stringish, shape, Sem.run, hsa, hsb, hfa, hfe]

/-- slices.overlaps of two blocks of our own: false. -/
theorem val_overlaps (hT : TabOk P T) {f : FuncId} {fn : Func} {x y : Operand} {t tR e ty : TypeId} {ts : Array TypeId} {b b' o o' l l' c c' size by' s1 b1 : Nat} {td : TD} {z1 z2 : Option (List Value)} {C C' : List Value} {t1 t2 : TypeId}
    (hf : P.funcs[f]? = some fn) (hname : (fn.name == "runtime.NumGoroutine") = false) (hb : fn.body.isNone = true) (hn : Extern.findNext fn = none) (he : Extern.find fn = some (Extern.SlicesOverlaps.overlaps #[t, t] #[tR]))
    (hlt : lookT T t = some ⟨.slice e, s1, b1, z1⟩) (hle : lookT T e = some ⟨td, size, by', z2⟩)
    (hx : evO E x = some (.slice (some ⟨b, o, none⟩) l c)) (hy : evO E y = some (.slice (some ⟨b', o', none⟩) l' c'))
    (hm : (⟨b, C, t1, (0, 0)⟩ : Blk) ∈ L) (hm' : (⟨b', C', t2, (0, 0)⟩ : Blk) ∈ L) (hne : b ≠ b') (hC : C' ≠ []) :
    Val P w0 A n E L (.call ⟨.value (.func f), #[x, y], ts⟩) ty (.bool false) := by
  intro a w hF hI d pos aft g
  obtain ⟨xt, hxt, hft⟩ := (hT.at hlt).under
  simp only [TD.fits] at hft
  subst hft
  have h1 : execOp a.eval ⟨d, .call ⟨.value (.func f), #[x, y], ts⟩, ty, pos, aft, g⟩ = callFunc f (#[.slice (some ⟨b, o, none⟩) l c, .slice (some ⟨b', o', none⟩) l' c']) := by
    show (resolve a.eval ⟨.value (.func f), #[x, y], ts⟩ ty >>= fun d => invoke d.target d.args) = _
    unfold resolve
    simp only [hF.eval (x := .func f) rfl, List.map_toArray, List.map_cons, List.map_nil, hF.eval hx, hF.eval hy]
    rfl
  have hz := fun w => (hT.at hle).size w
  simp only at hz
  have o1 := hI.own _ hm
  have o2 := hI.own _ hm'
  simp only at o1 o2
  rw [h1, run_callFunc_extern hf hname hb hn he, run_overlaps w t tR e hxt size hz ⟨b, o, none⟩ ⟨b', o', none⟩ l c l' c' (by simpa using hne) t1 t2 C.length C'.length (by simp [World.shape?, o1]) (by simp [World.shape?, o2]) (by simpa using hC) (by simp [World.frozen?, o1]) (by simp [World.frozen?, o1])]
  rfl

theorem val_cap (hT : TabOk P T) {t s1 b1 e nx cap : Nat} {z1 : Option (List Value)} {x : Operand} {a : Option Addr} {ty : TypeId} (hlt : lookT T t = some ⟨.slice e, s1, b1, z1⟩) (hx : evO E x = some (.slice a nx cap)) :
    Val P w0 A n E L (.call ⟨.builtin .cap, #[x], #[t]⟩) ty (.int .i64 (cap : Int)) := by
  intro ac w hF hI d pos aft g
  obtain ⟨xt, hxt, hft⟩ := (hT.at hlt).under
  simp only [TD.fits] at hft
  subst hft
  rw [exec_builtin]
  have e2 : (#[x] : Array Operand).map ac.eval = #[.slice a nx cap] := by simp [hF.eval hx]
  rw [e2]
  show ((Builtin.cap_ #[t] ty #[.slice a nx cap]) >>= fun x => (pure (Next.value x) : Sem Next)).run P w = _
  have hc : (Builtin.cap_ #[t] ty #[.slice a nx cap]).run P w = .ok (.int .i64 (cap : Int)) w := by simp [Builtin.cap_, run_underlying hxt, goInt]
  rw [Sem.run_bind, hc]
  rfl

/-- A part of a slice in a known block, up to its capacity. -/
theorem val_cutB (hT : TabOk P T) {t e : TypeId} {s1 b1 size by' : Nat} {z1 z : Option (List Value)} {td : TD} {x : Operand} {lo hi : Option Operand} {b o o' cap nx n' c' i j : Nat} {ty : TypeId}
    (hlt : lookT T t = some ⟨.slice e, s1, b1, z1⟩) (hle : lookT T e = some ⟨td, size, by', z⟩)
    (hx : evO E x = some (.slice (some ⟨b, o, none⟩) nx cap))
    (hl : (lo = none ∧ i = 0) ∨ ∃ y k, lo = some y ∧ evO E y = some (.int k (i : Int))) (hh : (hi = none ∧ j = nx) ∨ ∃ y k, hi = some y ∧ evO E y = some (.int k (j : Int)))
    (hij : i ≤ j) (hj : j ≤ cap) (hi' : i < cap) (ho : o' = o + i * size) (hn : n' = j - i) (hc : c' = cap - i) :
    Val P w0 A n E L (.slice t x lo hi none) ty (.slice (some ⟨b, o', none⟩) n' c') := by
  subst ho; subst hn; subst hc
  have h := val_cutR (P := P) (w0 := w0) (A := A) (n := n) (E := E) (L := L) (ty := ty) hT hlt hle hx hl hh hij hj hi'
  rw [Addr.add_lit] at h
  exact h
end

end Go.Proofs.YthlnellnlhkphaaDoor.Eng
