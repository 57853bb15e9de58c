/-
  THE ENGINE: lemmas by which a walk goes from operation to operation, memory being a list of blocks. Nothing here names a program.
-/
import Derived.Laws.AppendOwn
import Derived.Deep.LoopGhost
import Derived.WalkKit
import Derived.WalkSpells
import Derived.WalkLawsBesides
import Derived.Deep.Quiet
import Derived.ProofKit
import Derived.OpenShut
import Derived.ShutString
import Derived.ChangeOld
import Derived.SizedLaws
import Derived.Carry
namespace Go.Proofs.YtkdbpenjkcjimaaGreatDoor.Eng
open Go.RowKit
set_option autoImplicit true
set_option relaxedAutoImplicit true
set_option linter.unusedVariables false



/-- A block of memory that is known whole. -/
structure Blk where
  id : Nat
  c : List Value
  t : TypeId
  fz : Nat × Nat

def ids (L : List Blk) : List Nat := L.map (·.id)

/-- The world w came of w0; A: the blocks of w0 that may have turned; L: what is known. -/
structure Inv (w0 : World) (A : List Nat) (w : World) (L : List Blk) : Prop where
  os : w.os = w0.os
  tape : w.tape = w0.tape
  output : w.output = w0.output
  size : w0.heap.size ≤ w.heap.size
  frame : ∀ k, k < w0.heap.size → k ∉ A → w.heap[k]? = w0.heap[k]?
  own : ∀ p ∈ L, w.heap[p.id]? = some (.cells p.c.toArray p.t p.fz)
  nodup : (ids L).Nodup
  new : ∀ p ∈ L, p.id ∈ A ∨ w0.heap.size ≤ p.id

theorem Inv.drew {w0 A w L} (h : Inv w0 A w L) (k : Nat) : Inv w0 A { w with drawn := k } L :=
  ⟨h.os, h.tape, h.output, h.size, h.frame, h.own, h.nodup, h.new⟩

theorem Inv.start (w : World) : Inv w [] w [] :=
  ⟨rfl, rfl, rfl, Nat.le_refl _, fun _ _ _ => rfl, fun _ h => by simp at h, List.nodup_nil, fun _ h => by simp at h⟩

theorem heap_lt {w : World} {k : Nat} {o : Obj} (h : w.heap[k]? = some o) : k < w.heap.size := by
  rcases Nat.lt_or_ge k w.heap.size with h' | h'
  · exact h'
  · simp [Array.getElem?_eq_none h'] at h

theorem Inv.lt {w0 A w L} (h : Inv w0 A w L) {p : Blk} (hp : p ∈ L) : p.id < w.heap.size := heap_lt (h.own p hp)

/-- What is known may be forgotten, and told in another order. -/
theorem Inv.sub {w0 A w L L'} (h : Inv w0 A w L) (hs : ∃ R, L.Perm (L' ++ R)) : Inv w0 A w L' := by
  obtain ⟨R, hp⟩ := hs
  refine ⟨h.os, h.tape, h.output, h.size, h.frame, fun p hp' => h.own p (hp.mem_iff.2 (by simp [hp'])), ?_, fun p hp' => h.new p (hp.mem_iff.2 (by simp [hp']))⟩
  have : (ids (L' ++ R)).Nodup := (hp.map _).nodup_iff.1 h.nodup
  unfold ids at *
  rw [List.map_append] at this
  exact (List.nodup_append.1 this).1

theorem Inv.perm {w0 A w L L'} (h : Inv w0 A w L) (hs : L.Perm L') : Inv w0 A w L' := h.sub ⟨[], by simpa using hs⟩

theorem Inv.tail {w0 A w p L} (h : Inv w0 A w (p :: L)) : Inv w0 A w L :=
  h.sub ⟨[p], (List.perm_append_singleton p L).symm⟩

theorem Inv.none {w0 A w L} (h : Inv w0 A w L) : Inv w0 A w [] := h.sub ⟨L, by simp⟩

/-- A new block. -/
theorem Inv.alloc {w0 A w L} (h : Inv w0 A w L) (c : List Value) (t : TypeId) (fz : Nat × Nat := (0, 0)) :
    Inv w0 A (w.alloc (.cells c.toArray t fz)) (⟨w.heap.size, c, t, fz⟩ :: L) := by
  refine ⟨h.os, h.tape, h.output, Nat.le_trans h.size (by show w.heap.size ≤ (w.heap.push _).size; simp), ?_, ?_, ?_, ?_⟩
  · intro k hk hA
    rw [← h.frame k hk hA]
    exact Below.heap_alloc _ _ _ (by have := h.size; omega)
  · intro p hp
    rcases List.mem_cons.1 hp with rfl | hp
    · show (w.heap.push _)[w.heap.size]? = _
      simp
    · rw [← h.own p hp]
      exact Below.heap_alloc _ _ _ (h.lt hp)
  · refine List.nodup_cons.2 ⟨fun hm => ?_, h.nodup⟩
    obtain ⟨p, hp, he⟩ := List.mem_map.1 hm
    have := h.lt hp
    simp only at he
    omega
  · intro p hp
    rcases List.mem_cons.1 hp with rfl | hp
    · exact .inr h.size
    · exact h.new p hp

/-- L with the block of one number in another state. -/
inductive Upd : List Blk → Blk → Blk → List Blk → Prop
  | here {p p' : Blk} {L : List Blk} : Upd (p :: L) p p' (p' :: L)
  | there {p p' q : Blk} {L L' : List Blk} : Upd L p p' L' → Upd (q :: L) p p' (q :: L')

theorem Upd.mem {L p p' L'} (h : Upd L p p' L') : p ∈ L := by
  induction h with
  | here => exact .head _
  | there _ ih => exact .tail _ ih

theorem Upd.ids {L p p' L'} (h : Upd L p p' L') (hid : p'.id = p.id) : ids L' = ids L := by
  induction h with
  | here => simp [Eng.ids, hid]
  | there _ ih => simp only [Eng.ids, List.map_cons] at *; rw [ih hid]

theorem Upd.mem' {L p p' L'} (h : Upd L p p' L') (hn : (Eng.ids L).Nodup) {q : Blk} (hq : q ∈ L') : q = p' ∨ (q ∈ L ∧ q.id ≠ p.id) := by
  induction h with
  | here =>
    rcases List.mem_cons.1 hq with rfl | hq
    · exact .inl rfl
    · refine .inr ⟨.tail _ hq, fun he => ?_⟩
      simp only [Eng.ids, List.map_cons, List.nodup_cons] at hn
      exact hn.1 (List.mem_map.2 ⟨q, hq, he⟩)
  | @there p p' r L L' hu ih =>
    simp only [Eng.ids, List.map_cons, List.nodup_cons] at hn
    rcases List.mem_cons.1 hq with rfl | hq
    · refine .inr ⟨.head _, fun he => hn.1 (List.mem_map.2 ⟨p, hu.mem, he.symm⟩)⟩
    · rcases ih hn.2 hq with h | ⟨h, h'⟩
      · exact .inl h
      · exact .inr ⟨.tail _ h, h'⟩

/-- A block is written. -/
theorem Inv.upd {w0 A w w' L L'} {p p' : Blk} (h : Inv w0 A w L) (hu : Upd L p p' L') (hid : p'.id = p.id)
    (hos : w'.os = w.os) (htape : w'.tape = w.tape) (hout : w'.output = w.output) (hsz : w.heap.size ≤ w'.heap.size)
    (hoth : ∀ k, k < w.heap.size → k ≠ p.id → w'.heap[k]? = w.heap[k]?) (hself : w'.heap[p.id]? = some (.cells p'.c.toArray p'.t p'.fz)) : Inv w0 A w' L' := by
  refine ⟨hos.trans h.os, htape.trans h.tape, hout.trans h.output, Nat.le_trans h.size hsz, ?_, ?_, ?_, ?_⟩
  · intro k hk hA
    rw [← h.frame k hk hA]
    refine hoth k (Nat.lt_of_lt_of_le hk h.size) (fun he => ?_)
    subst he
    rcases h.new p hu.mem with hn | hn
    · exact hA hn
    · omega
  · intro q hq
    rcases hu.mem' h.nodup hq with rfl | ⟨hq', hne⟩
    · rw [hid]; exact hself
    · rw [← h.own q hq']
      exact hoth _ (h.lt hq') hne
  · rw [hu.ids hid]; exact h.nodup
  · intro q hq
    rcases hu.mem' h.nodup hq with rfl | ⟨hq', _⟩
    · rw [hid]; exact h.new p hu.mem
    · exact h.new q hq'

theorem heap_setCell_self (w : World) (a : Addr) (v : Value) (c : Array Value) (t : TypeId) (fz : Nat × Nat) (ha : a.spot = none) (h : w.heap[a.block]? = some (.cells c t fz)) :
    (w.setCell a v).heap[a.block]? = some (.cells (c.setIfInBounds a.off v) t fz) := by
  simp only [World.setCell, Array.getElem?_modify, h, if_true, Option.map_some, ha]
  simp

theorem Inv.store {w0 A w L L'} {b off : Nat} {c : List Value} {t : TypeId} {fz : Nat × Nat} (h : Inv w0 A w L) (v : Value)
    (hu : Upd L ⟨b, c, t, fz⟩ ⟨b, c.set off v, t, fz⟩ L') : Inv w0 A (w.setCell ⟨b, off, Option.none⟩ v) L' := by
  refine h.upd hu rfl rfl rfl rfl (by simp [World.setCell]) (fun k _ hk => Below.heap_setCell _ _ _ _ hk) ?_
  have := heap_setCell_self w ⟨b, off, Option.none⟩ v c.toArray t fz rfl (h.own _ hu.mem)
  simpa using this

/-! ### Frames -/
def lookO : List (Nat × Value) → Nat → Option Value
  | [], _ => none
  | (d, v) :: E, t => bif Nat.beq d t then some v else lookO E t

structure Fr (n : Nat) (E : List (Nat × Value)) (a : Act) : Prop where
  defers : a.defers = []
  size : a.tmps.size = n
  look : ∀ t v, lookO E t = some v → a.tmps[t]? = some v

theorem Fr.put {n E a d v} (h : Fr n E a) (hd : Nat.blt d n = true) : Fr n ((d, v) :: E) (a.put (some d) v) := by
  have hd' : d < n := by simpa using hd
  refine ⟨h.defers, by simp [Act.put, h.size], fun t u hu => ?_⟩
  simp only [Act.put, Array.getElem?_setIfInBounds]
  simp only [lookO, cond_eq_ite] at hu
  by_cases he : d = t
  · subst he
    rw [if_pos rfl, if_pos (by rw [h.size]; exact hd')]
    simp at hu
    rw [hu]
  · rw [if_neg he]
    have : Nat.beq d t = false := Bool.eq_false_iff.2 (fun hb => he (Nat.eq_of_beq_eq_true hb))
    simp [this] at hu
    exact h.look t u hu

def evO (E : List (Nat × Value)) : Operand → Option Value
  | .tmp t => lookO E t
  | .const v => some v
  | .global g => some (.pointer (some ⟨g, 0, none⟩))
  | .func f => some (.func (.func f) #[] #[])

theorem Fr.eval {n E a x v} (h : Fr n E a) (hx : evO E x = some v) : a.eval x = v := by
  cases x with
  | tmp t =>
    have := h.look t v hx
    simp [Act.eval, Array.getD_eq_getD_getElem?, this]
  | const u => simpa [evO, Act.eval] using hx
  | global g => simpa [evO, Act.eval] using hx
  | func f => simpa [evO, Act.eval] using hx

def evArgs (E : List (Nat × Value)) : List Operand → Option (List Value)
  | [] => some []
  | x :: xs => match evO E x with
    | none => none
    | some v => match evArgs E xs with
      | none => none
      | some vs => some (v :: vs)

theorem Fr.evalArgs {n E a} (h : Fr n E a) : ∀ {xs : List Operand} {vs : List Value}, evArgs E xs = some vs → xs.map a.eval = vs
  | [], vs, hx => by simp [evArgs] at hx; simp [hx]
  | x :: xs, vs, hx => by
    simp only [evArgs] at hx
    split at hx
    · simp at hx
    · rename_i v hv
      split at hx
      · simp at hx
      · rename_i us hus
        simp only [Option.some.injEq] at hx
        subst hx
        simp [h.eval hv, h.evalArgs hus]

/-- A smaller frame. -/
def Agree (E : List (Nat × Value)) : List (Nat × Value) → Prop
  | [] => True
  | (t, v) :: E' => lookO E t = some v ∧ Agree E E'

theorem Agree.look {E : List (Nat × Value)} : ∀ {E' : List (Nat × Value)}, Agree E E' → ∀ t v, lookO E' t = some v → lookO E t = some v
  | [], _, t, v, h => by simp [lookO] at h
  | (d, u) :: E', ⟨h1, h2⟩, t, v, h => by
    simp only [lookO, cond_eq_ite] at h
    by_cases he : d = t
    · subst he; simp at h; rw [← h]; exact h1
    · have : Nat.beq d t = false := Bool.eq_false_iff.2 (fun hb => he (Nat.eq_of_beq_eq_true hb))
      simp [this] at h
      exact Agree.look h2 t v h

theorem Fr.agree {n E E' a} (h : Fr n E a) (hE : Agree E E') : Fr n E' a := ⟨h.defers, h.size, fun t v ht => h.look t v (hE.look t v ht)⟩


/-! ### Walks -/
section
variable (P : Program) (ops : Array Oper) (Q : Exit → Act → World → Prop) (w0 : World) (A : List Nat) (n : Nat)

def WL (rest : List Oper) (E : List (Nat × Value)) (L : List Blk) : Prop :=
  ∀ a w, Fr n E a → Inv w0 A w L → wpList P ops Q rest a w

def WC (c : Code) (E : List (Nat × Value)) (L : List Blk) : Prop :=
  ∀ a w, Fr n E a → Inv w0 A w L → c.wp P Q a w

def WX (e : Exit) (E : List (Nat × Value)) (L : List Blk) : Prop :=
  ∀ a w, Fr n E a → Inv w0 A w L → Q e a w

/-- One value, in every world of the class, from every frame that fits. -/
def Val (E : List (Nat × Value)) (L : List Blk) (op : Op) (ty : TypeId) (v : Value) : Prop :=
  ∀ a w, Fr n E a → Inv w0 A w L → ∀ d pos aft g, (execOp a.eval ⟨d, op, ty, pos, aft, g⟩).run P w = .ok (.value v) w

/-- An operation that may turn the world. -/
def Chg (E : List (Nat × Value)) (L : List Blk) (op : Op) (ty : TypeId) (S : Value → List Blk → Prop) : Prop :=
  ∀ a w, Fr n E a → Inv w0 A w L → ∀ d pos aft g, ∃ nx w' v L', (execOp a.eval ⟨d, op, ty, pos, aft, g⟩).run P w = .ok nx w' ∧
    (nx = .value v ∨ (nx = .skip ∧ v = undef)) ∧ Inv w0 A w' L' ∧ S v L'

def Sp (f : FuncId) (args : List Value) (pre : List Blk) (R : World → Prop) (S : Value → List Blk → Prop) : Prop :=
  ∀ w, Inv w (ids pre) w pre → R w → Calls P f args.toArray w fun e w' => ∃ v L', e = .returned v ∧ Inv w (ids pre) w' L' ∧ S v L'

end

section
variable {P : Program} {ops : Array Oper} {Q : Exit → Act → World → Prop} {w0 : World} {A : List Nat} {n : Nat}
variable {E : List (Nat × Value)} {L : List Blk} {rest : List Oper}

theorem wpList_bare {o : Oper} {a : Act} {w : World} (hg : o.guard = none) (h : o.wp P a w (wpList P ops Q rest) Q) : wpList P ops Q (o :: rest) a w := by
  unfold wpList
  rw [if_pos (by simp [Region.wanted, hg])]
  exact .inl h

theorem wl_val {d : Nat} {op : Op} {ty : TypeId} {pos : String} {aft : Array Edge} {v : Value}
    (hv : Val P w0 A n E L op ty v) (hd : Nat.blt d n = true) (k : WL P ops Q w0 A n rest ((d, v) :: E) L) :
    WL P ops Q w0 A n (⟨some d, op, ty, pos, aft, none⟩ :: rest) E L := by
  intro a w hF hI
  refine wpList_bare rfl ?_
  unfold Oper.wp
  rw [hv a w hF hI]
  exact k _ _ (hF.put hd) hI

theorem wl_chg {d : Nat} {op : Op} {ty : TypeId} {pos : String} {aft : Array Edge} {S : Value → List Blk → Prop}
    (hv : Chg P w0 A n E L op ty S) (hd : Nat.blt d n = true) (k : ∀ v L', S v L' → WL P ops Q w0 A n rest ((d, v) :: E) L') :
    WL P ops Q w0 A n (⟨some d, op, ty, pos, aft, none⟩ :: rest) E L := by
  intro a w hF hI
  refine wpList_bare rfl ?_
  unfold Oper.wp
  obtain ⟨nx, w', v, L', hr, hn, hI', hS⟩ := hv a w hF hI (some d) pos aft none
  rw [hr]
  rcases hn with rfl | ⟨rfl, rfl⟩
  · exact k _ _ hS _ _ (hF.put hd) hI'
  · exact k _ _ hS _ _ (hF.put hd) hI'

theorem wl_chg0 {op : Op} {ty : TypeId} {pos : String} {aft : Array Edge} {S : Value → List Blk → Prop}
    (hv : Chg P w0 A n E L op ty S) (k : ∀ v L', S v L' → WL P ops Q w0 A n rest E L') :
    WL P ops Q w0 A n (⟨none, op, ty, pos, aft, none⟩ :: rest) E L := by
  intro a w hF hI
  refine wpList_bare rfl ?_
  unfold Oper.wp
  obtain ⟨nx, w', v, L', hr, hn, hI', hS⟩ := hv a w hF hI none pos aft none
  rw [hr]
  rcases hn with rfl | ⟨rfl, rfl⟩
  · exact k _ _ hS _ _ hF hI'
  · exact k _ _ hS _ _ hF hI'

theorem wl_nil (k : WX Q w0 A n .normal E L) : WL P ops Q w0 A n [] E L := k

theorem wc_seq {x y : Code} (k : WC P (Exit.then (y.wp P Q) Q) w0 A n x E L) : WC P Q w0 A n (.seq x y) E L :=
  fun a w hF hI => wp_seq (k a w hF hI)
theorem wx_then {y : Code} (k : WC P Q w0 A n y E L) : WX (Exit.then (y.wp P Q) Q) w0 A n .normal E L := k
theorem wx_then_exit {K : Act → World → Prop} {id : Nat} (k : WX Q w0 A n (.exit id) E L) : WX (Exit.then K Q) w0 A n (.exit id) E L := k
theorem wx_then_ret {K : Act → World → Prop} (k : WX Q w0 A n .ret E L) : WX (Exit.then K Q) w0 A n .ret E L := k
theorem wx_block {id : Nat} (k : WX Q w0 A n .normal E L) : WX (Exit.inBlock id Q) w0 A n .normal E L := k
theorem wx_block_exit {id : Nat} (k : WX Q w0 A n .normal E L) : WX (Exit.inBlock id Q) w0 A n (.exit id) E L :=
  fun a w hF hI => by simp only [Exit.inBlock, if_true]; exact k a w hF hI
theorem wx_block_other {id id' : Nat} (hne : Nat.beq id' id = false) (k : WX Q w0 A n (.exit id') E L) : WX (Exit.inBlock id Q) w0 A n (.exit id') E L :=
  fun a w hF hI => by
    have : id' ≠ id := fun h => by subst h; simp at hne
    simp only [Exit.inBlock, if_neg this]; exact k a w hF hI
theorem wx_block_ret {id : Nat} (k : WX Q w0 A n .ret E L) : WX (Exit.inBlock id Q) w0 A n .ret E L := k

theorem wc_skip (k : WX Q w0 A n .normal E L) : WC P Q w0 A n .skip E L := fun a w hF hI => wp_skip (k a w hF hI)
theorem wc_exit {id : Nat} (k : WX Q w0 A n (.exit id) E L) : WC P Q w0 A n (.exit id) E L := fun a w hF hI => wp_exit (k a w hF hI)
theorem wc_ret (k : WX Q w0 A n .ret E L) : WC P Q w0 A n .ret E L := fun a w hF hI => wp_ret (k a w hF hI)
theorem wc_block {id : Nat} {c : Code} (k : WC P (Exit.inBlock id Q) w0 A n c E L) : WC P Q w0 A n (.block id c) E L :=
  fun a w hF hI => wp_block (k a w hF hI)
theorem wc_region {id : Nat} {l : List Oper} (k : WL P l.toArray Q w0 A n l E L) : WC P Q w0 A n (.region id l.toArray false) E L :=
  fun a w hF hI => wp_region_lit (k a w hF hI)
theorem wc_cond {c : Operand} {x y : Code} {t : Bool} (hc : evO E c = some (.bool t)) (ht : t = true → WC P Q w0 A n x E L) (hf : t = false → WC P Q w0 A n y E L) :
    WC P Q w0 A n (.cond c x y) E L :=
  fun a w hF hI => wp_cond_split (hF.eval hc) (fun h => ht h a w hF hI) (fun h => hf h a w hF hI)
theorem wc_cond_true {c : Operand} {x y : Code} (hc : evO E c = some (.bool true)) (k : WC P Q w0 A n x E L) : WC P Q w0 A n (.cond c x y) E L :=
  fun a w hF hI => wp_cond_true (hF.eval hc) (k a w hF hI)
theorem wc_cond_false {c : Operand} {x y : Code} (hc : evO E c = some (.bool false)) (k : WC P Q w0 A n y E L) : WC P Q w0 A n (.cond c x y) E L :=
  fun a w hF hI => wp_cond_false (hF.eval hc) (k a w hF hI)

/-! guards -/
theorem yielded_of {a : Act} {j d : Nat} {b : Bool} (hF : Fr n E a) (hj : (ops[j]?).bind (·.dst) = some d) (hd : lookO E d = some (.bool b)) :
    yielded ops a.tmps j = some b := by
  simp only [yielded, hj, Option.bind_some, hF.look d _ hd]

theorem Fr.over {n E a t v} (h : Fr n E a) (hd : lookO E t = some v) : Fr n ((t, v) :: E) a := by
  refine ⟨h.defers, h.size, fun s u hs => ?_⟩
  simp only [lookO, cond_eq_ite] at hs
  by_cases he : t = s
  · subst he; simp at hs; rw [← hs]; exact h.look _ _ hd
  · have : Nat.beq t s = false := Bool.eq_false_iff.2 (fun hb => he (Nat.eq_of_beq_eq_true hb))
    simp [this] at hs
    exact h.look s u hs

def zipO : Nat → List Value → Option (List (Nat × Value))
  | _, [] => some []
  | k, v :: vs => match zipO (k + 1) vs with
    | none => none
    | some r => some ((k, v) :: r)

theorem zipO_eq : ∀ {l : List Value} {k : Nat} {r : List (Nat × Value)}, zipO k l = some r → r = (l.zipIdx k).map fun p => (p.2, p.1)
  | [], _, r, h => by simp [zipO] at h; simp [h]
  | v :: vs, k, r, h => by
    simp only [zipO] at h
    split at h
    · simp at h
    · rename_i s hs
      simp only [Option.some.injEq] at h
      rw [← h, zipO_eq hs]; rfl

theorem sp_of_wc {f : FuncId} {fn : Func} {c : Code} {args : List Value} {pre : List Blk} {R : World → Prop} {S : Value → List Blk → Prop} {m : Nat} {E : List (Nat × Value)}
    (hf : P.funcs[f]? = some fn) (hb : fn.body = some c) (hm : fn.ntmps = m) (hE : zipO 0 args = some E) (hlen : Nat.ble args.length m = true)
    (h : ∀ w, R w → WC P (bodyPost P fn (fun e w' => ∃ v L', e = .returned v ∧ Inv w (ids pre) w' L' ∧ S v L')) w (ids pre) m c E pre) :
    Sp P f args pre R S := by
  intro w hI hR
  refine calls_of_wp hf hb (h w hR _ w ⟨rfl, ?_, ?_⟩ hI)
  · have : args.length ≤ m := by simpa using hlen
    simp [hm]; omega
  · intro t v ht
    have hE' := zipO_eq hE
    subst hE'
    have key : ∀ (l : List Value) (k : Nat), lookO ((l.zipIdx k).map fun p => (p.2, p.1)) t = some v → k ≤ t ∧ l[t - k]? = some v := by
      intro l
      induction l with
      | nil => intro k h; simp [lookO] at h
      | cons x l ih =>
        intro k h
        simp only [List.zipIdx_cons, List.map_cons, lookO, cond_eq_ite] at h
        by_cases he : k = t
        · subst he; simp at h; exact ⟨Nat.le_refl _, by simp [h]⟩
        · have hb : Nat.beq k t = false := Bool.eq_false_iff.2 (fun hb => he (Nat.eq_of_beq_eq_true hb))
          simp [hb] at h
          obtain ⟨h1, h2⟩ := ih (k + 1) h
          refine ⟨by omega, ?_⟩
          have : t - k = (t - (k + 1)) + 1 := by omega
          rw [this]; simpa using h2
    obtain ⟨_, h2⟩ := key args 0 ht
    have hlt : t < args.length := by
      rcases Nat.lt_or_ge t args.length with h | h
      · exact h
      · simp [List.getElem?_eq_none h] at h2
    simp only [Nat.sub_zero] at h2
    rw [Array.getElem?_append_left (by simpa using hlt)]
    simpa using h2

end


/-! ### What a program's types are, in a table of our own -/
inductive TD where
  | bool | int (k : IntKind) | str | ptr (e : TypeId) | slice (e : TypeId) | arr (n : Nat) (e : TypeId) | struct (fs : List (TypeId × Nat)) | other
structure TI where
  d : TD
  size : Nat
  bytes : Nat
  zero : Option (List Value)

def TD.agg : TD → Bool | .arr .. | .struct _ => true | _ => false

def TD.fits : TD → TypeDesc → Prop
  | .bool, x => x = .bool
  | .int k, x => x = .int k
  | .str, x => x = .string
  | .ptr e, x => x = .pointer e
  | .slice e, x => x = .slice e
  | .arr n e, x => x = .array n e
  | .struct fs, x => ∃ f, x = .struct f ∧ f.toList.map (fun x => (x.type, x.offset)) = fs
  | .other, x => (match x with | .array .. | .struct _ => False | _ => True)

def lookT : List (Nat × TI) → Nat → Option TI
  | [], _ => none
  | (d, v) :: E, t => bif Nat.beq d t then some v else lookT E t

structure TOk (P : Program) (t : Nat) (i : TI) : Prop where
  under : ∃ x, P.underlying t = some x ∧ i.d.fits x
  size : ∀ w, (sizeOf t).run P w = .ok i.size w
  bytes : ∀ w, ∃ x, (typeInfo t).run P w = .ok x w ∧ x.bytes = i.bytes
  zero : ∀ z, i.zero = some z → ∀ w, ∃ v, (zeroValue t).run P w = .ok v w ∧ v.cells = z.toArray

def TabOk (P : Program) (T : List (Nat × TI)) : Prop := ∀ x ∈ T, TOk P x.1 x.2

theorem lookT_mem {T : List (Nat × TI)} {t i} (h : lookT T t = some i) : (t, i) ∈ T := by
  induction T with
  | nil => simp [lookT] at h
  | cons x T ih =>
    obtain ⟨d, v⟩ := x
    simp only [lookT, cond_eq_ite] at h
    split at h
    · rename_i hb
      have := Nat.eq_of_beq_eq_true hb
      simp at h
      subst this; subst h
      exact .head _
    · exact .tail _ (ih h)

theorem TabOk.at {P T t i} (h : TabOk P T) (ht : lookT T t = some i) : TOk P t i := h _ (lookT_mem ht)

theorem TOk.isAgg {P t i} (h : TOk P t i) (w : World) : (isAgg t).run P w = .ok i.d.agg w := by
  obtain ⟨x, hx, hf⟩ := h.under
  unfold Go.isAgg
  rw [Sem.run_bind, run_underlying hx]
  cases hd : i.d <;> rw [hd] at hf <;> simp only [TD.fits] at hf
  case struct fs => obtain ⟨f, rfl, _⟩ := hf; rfl
  case other => cases x <;> first | rfl | exact hf.elim
  all_goals (subst hf; rfl)

/-! ### What an operation yields that only reckons -/
def takeO : Nat → List Value → Option (List Value)
  | 0, _ => some []
  | _ + 1, [] => none
  | m + 1, x :: xs => match takeO m xs with
    | none => none
    | some ys => some (x :: ys)

def dropO : Nat → List Value → List Value
  | 0, l => l
  | _ + 1, [] => []
  | m + 1, _ :: xs => dropO m xs

def nthO : Nat → List Value → Option Value
  | _, [] => none
  | 0, x :: _ => some x
  | m + 1, _ :: xs => nthO m xs

theorem nthO_eq : ∀ (i : Nat) (l : List Value), nthO i l = l[i]?
  | _, [] => by simp [nthO]
  | 0, _ :: _ => by simp [nthO]
  | i + 1, _ :: xs => by simp [nthO, nthO_eq i xs]

theorem dropO_eq : ∀ (i : Nat) (l : List Value), dropO i l = l.drop i
  | 0, _ => rfl
  | _ + 1, [] => rfl
  | i + 1, _ :: xs => by simp [dropO, dropO_eq i xs]

theorem takeO_eq : ∀ (i : Nat) (l r : List Value), takeO i l = some r → r = l.take i ∧ i ≤ l.length
  | 0, _, r, h => by simp [takeO] at h; subst h; simp
  | _ + 1, [], r, h => by simp [takeO] at h
  | i + 1, x :: xs, r, h => by
    simp only [takeO] at h
    split at h
    · simp at h
    · rename_i ys hys
      obtain ⟨h1, h2⟩ := takeO_eq i xs ys hys
      simp at h
      subst h
      exact ⟨by simp [h1], by simpa using h2⟩

def posI : Int → Bool
  | .ofNat (_ + 1) => true
  | _ => false

theorem posI_ne {b : Int} (h : posI b = true) : ¬ b = 0 := by
  intro h0; subst h0; simp [posI] at h

def binV (op : BinOp) (x y : Value) : Option Value :=
  match op, x, y with
  | .shl, .int k a, .int _ (.ofNat b) => some (.int k (k.wrap (a * 2 ^ (min b k.bits))))
  | .shr, .int k a, .int _ (.ofNat b) => some (.int k (a / 2 ^ (min b k.bits)))
  | .add, .int k a, .int k' b => if k = k' then some (.int k (k.wrap (a + b))) else none
  | .sub, .int k a, .int k' b => if k = k' then some (.int k (k.wrap (a - b))) else none
  | .mul, .int k a, .int k' b => if k = k' then some (.int k (k.wrap (a * b))) else none
  | .quo, .int k a, .int k' b => if k = k' then (bif posI b then some (.int k (k.wrap (a.tdiv b))) else none) else none
  | .rem, .int k a, .int k' b => if k = k' then (bif posI b then some (.int k (a.tmod b)) else none) else none
  | .and, .int k a, .int k' b => if k = k' then some (.int k (bits .and k a b)) else none
  | .or, .int k a, .int k' b => if k = k' then some (.int k (bits .or k a b)) else none
  | .xor, .int k a, .int k' b => if k = k' then some (.int k (bits .xor k a b)) else none
  | .eql, .int k a, .int k' b => if k = k' then some (.bool (a == b)) else none
  | .neq, .int k a, .int k' b => if k = k' then some (.bool (a != b)) else none
  | .lss, .int k a, .int k' b => if k = k' then some (.bool (decide (a < b))) else none
  | .leq, .int k a, .int k' b => if k = k' then some (.bool (decide (a ≤ b))) else none
  | .gtr, .int k a, .int k' b => if k = k' then some (.bool (decide (b < a))) else none
  | .geq, .int k a, .int k' b => if k = k' then some (.bool (decide (b ≤ a))) else none
  | _, _, _ => none


theorem run_binV {P : Program} {op : BinOp} {t : TypeId} {x y v : Value} (w : World) (h : binV op x y = some v) : (binOp op t x y).run P w = .ok v w := by
  unfold binV at h
  split at h <;> (try split at h) <;> (try (simp only [cond_eq_ite] at h; split at h)) <;> (try (simp at h; done)) <;> simp only [Option.some.injEq] at h <;> subst h
  case h_1 b =>
    have hb : ¬ ((b : Int) < 0) := by omega
    simp [binOp, Op.shift, hb]
  case h_2 b =>
    have hb : ¬ ((b : Int) < 0) := by omega
    simp only [binOp, Op.shift, Int.ofNat_eq_natCast, hb, if_false, Int.toNat_natCast]
    rw [Int.fdiv_eq_ediv_of_nonneg _ (by exact Int.pow_nonneg (by decide))]
    rfl
  case h_6.isTrue.isTrue hk hp => subst hk; simp [binOp, Op.intDiv, posI_ne hp]
  case h_7.isTrue.isTrue hk hp => subst hk; simp [binOp, Op.intDiv, posI_ne hp]
  all_goals (rename_i hk; subst hk; simp [go_sem, binOp, Op.intArith, Op.intCmp]; try rfl)



def setRange : List Value → Nat → List Value → List Value
  | cs, _, [] => cs
  | cs, off, v :: vs => setRange (cs.set off v) (off + 1) vs

def cellsL : Value → List Value
  | .agg cs => cs.toList
  | v => [v]

theorem cellsL_eq (v : Value) : v.cells = (cellsL v).toArray := by cases v <;> simp [Value.cells, cellsL]

theorem foldl_setRange : ∀ (vs : List Value) (k off : Nat) (cs : List Value),
    (vs.zipIdx k).foldl (fun (a : Array Value) (p : Value × Nat) => a.setIfInBounds (off + p.2) p.1) cs.toArray = (setRange cs (off + k) vs).toArray
  | [], _, _, _ => rfl
  | v :: vs, k, off, cs => by
    simp only [List.zipIdx_cons, List.foldl_cons, setRange]
    have := foldl_setRange vs (k + 1) off (cs.set (off + k) v)
    rw [show off + k + 1 = off + (k + 1) from by omega, ← this]
    simp

def normO : List Value → Option (List Value)
  | [] => some []
  | x :: xs => match normO xs with
    | none => none
    | some r => some (x :: r)

theorem normO_eq : ∀ {l r : List Value}, normO l = some r → r = l
  | [], r, h => by simp [normO] at h; simp [h]
  | x :: xs, r, h => by
    simp only [normO] at h
    split at h
    · simp at h
    · rename_i s hs
      simp only [Option.some.injEq] at h
      rw [← h, normO_eq hs]

def setO : List Value → Nat → List Value → Option (List Value)
  | cs, _, [] => normO cs
  | [], _, _ :: _ => none
  | _ :: xs, 0, v :: vs => match setO xs 0 vs with
    | none => none
    | some r => some (v :: r)
  | x :: xs, k + 1, v :: vs => match setO xs k (v :: vs) with
    | none => none
    | some r => some (x :: r)

theorem setRange_cons0 (x : Value) : ∀ (vs xs : List Value) (off : Nat), setRange (x :: xs) (off + 1) vs = x :: setRange xs off vs
  | [], _, _ => rfl
  | v :: vs, xs, off => by simp only [setRange, List.set_cons_succ]; exact setRange_cons0 x vs _ _

theorem setO_eq : ∀ {cs : List Value} {off : Nat} {vs r : List Value}, setO cs off vs = some r → r = setRange cs off vs ∧ (vs = [] ∨ off + vs.length ≤ cs.length)
  | cs, off, [], r, h => by cases cs <;> exact ⟨by simpa [setRange] using normO_eq h, .inl rfl⟩
  | [], off, v :: vs, r, h => by simp [setO] at h
  | x :: xs, 0, v :: vs, r, h => by
    simp only [setO] at h
    split at h
    · simp at h
    · rename_i s hs
      simp only [Option.some.injEq] at h
      obtain ⟨h1, h2⟩ := setO_eq hs
      refine ⟨?_, .inr ?_⟩
      · rw [← h, h1]
        simp only [setRange, List.set_cons_zero, Nat.zero_add]
        rw [show (1 : Nat) = 0 + 1 from rfl, setRange_cons0]
      · rcases h2 with rfl | h2
        · simp
        · simp at h2 ⊢; omega
  | x :: xs, k + 1, v :: vs, r, h => by
    simp only [setO] at h
    split at h
    · simp at h
    · rename_i s hs
      simp only [Option.some.injEq] at h
      obtain ⟨h1, h2⟩ := setO_eq hs
      refine ⟨?_, .inr ?_⟩
      · rw [← h, h1, setRange_cons0]
      · rcases h2 with h2 | h2
        · simp at h2
        · simp at h2 ⊢; omega


/-- parts: place, size, value -/
def fillL : List Value → List (Nat × Nat × Value) → Option (List Value)
  | cs, [] => some cs
  | cs, (off, size, v) :: rest =>
    match setO cs off (cellsL v) with
    | some cs' => bif Nat.beq (cellsL v).length size && Nat.ble (off + size) cs.length then fillL cs' rest else none
    | none => none

theorem fill_of_fillL {place : Nat → Option (Nat × Nat)} : ∀ (parts : List (Nat × Value)) (ps : List (Nat × Nat × Value)) (cs out : List Value),
    (parts.mapM fun (x : Nat × Value) => (place x.1).map fun q => (q.1, q.2, x.2)) = some ps → fillL cs ps = some out → Instr.fill place cs.toArray parts = some out.toArray
  | [], ps, cs, out, hp, h => by
    simp at hp; subst hp; simp [fillL] at h; subst h; rfl
  | (i, v) :: parts, ps, cs, out, hp, h => by
    rw [List.mapM_cons] at hp
    cases hq : place i with
    | none => simp [hq] at hp
    | some q =>
      obtain ⟨off, size⟩ := q
      simp only [hq, Option.map_some] at hp
      cases hr : (parts.mapM fun (x : Nat × Value) => (place x.1).map fun q => (q.1, q.2, x.2)) with
      | none => rw [hr] at hp; simp at hp
      | some rs =>
        rw [hr] at hp
        simp at hp
        subst hp
        simp only [fillL] at h
        split at h
        rotate_left
        · simp at h
        rename_i cs' hcs'
        obtain ⟨hset, _⟩ := setO_eq hcs'
        subst hset
        simp only [cond_eq_ite, Bool.and_eq_true, Nat.beq_eq, Nat.ble_eq] at h
        split at h
        · rename_i hc
          obtain ⟨hc1, hc2⟩ := hc
          have hsz : v.cells.size = (cellsL v).length := by rw [cellsL_eq]; simp
          simp only [Instr.fill, hq]
          rw [if_neg (by simp [hsz, hc1]; omega)]
          have hf := foldl_setRange (cellsL v) 0 off cs
          have he : v.cells.zipIdx.foldl (fun cs x => cs.setIfInBounds (off + x.2) x.1) cs.toArray = (setRange cs off (cellsL v)).toArray := by
            rw [cellsL_eq, ← Array.foldl_toList]
            simpa using hf
          rw [he]
          exact fill_of_fillL parts rs _ out hr h
        · simp at h

def allT (T : List (Nat × TI)) : List (TypeId × Nat) → Bool
  | [] => true
  | x :: r => (lookT T x.1).isSome && allT T r

section
variable (T : List (Nat × TI)) (E : List (Nat × Value))

def nthF : Nat → List (TypeId × Nat) → Option (TypeId × Nat)
  | _, [] => none
  | 0, x :: _ => some x
  | m + 1, _ :: xs => nthF m xs

def isLit : Value → Bool
  | .nilIface => false
  | .agg _ => false
  | _ => true

def partV (t : TypeId) (cs : List Value) (off : Nat) : Option Value :=
  match lookT T t with
  | some ⟨d, size, _, _⟩ => bif d.agg then (match takeO size (dropO off cs) with | some l => some (.agg l.toArray) | none => none) else nthO off cs
  | none => none

def evParts : List (Nat × Operand) → Option (List (Nat × Value))
  | [] => some []
  | (i, x) :: xs => match evO E x with
    | none => none
    | some v => match evParts xs with
      | none => none
      | some vs => some ((i, v) :: vs)

def placeF (fs : List (TypeId × Nat)) (i : Nat) : Option (Nat × Nat) :=
  match nthF i fs with
  | some (ft, off) => (match lookT T ft with | some ⟨_, size, _, _⟩ => some (off, size) | none => none)
  | none => none

def placeA (size : Nat) (i : Nat) : Option (Nat × Nat) := some (i * size, size)

def placed (place : Nat → Option (Nat × Nat)) : List (Nat × Value) → Option (List (Nat × Nat × Value))
  | [] => some []
  | (i, v) :: r => match place i with
    | none => none
    | some (off, size) => match placed place r with
      | none => none
      | some q => some ((off, size, v) :: q)

theorem placed_eq (place : Nat → Option (Nat × Nat)) : ∀ (l : List (Nat × Value)), (l.mapM fun (x : Nat × Value) => (place x.1).map fun q => (q.1, q.2, x.2)) = placed place l
  | [] => rfl
  | (i, v) :: r => by
    rw [List.mapM_cons, placed_eq place r]
    simp only [placed]
    cases place i <;> simp
    cases placed place r <;> simp

def buildV (t : TypeId) (parts : List (Nat × Value)) : Option Value :=
  match lookT T t with
  | some ⟨.struct fs, _, _, some z⟩ => (match placed (placeF T fs) parts with
    | some ps => (match fillL z ps with | some cs => bif allT T fs then some (.agg cs.toArray) else none | none => none)
    | none => none)
  | some ⟨.arr _ e, _, _, some z⟩ => (match lookT T e with
    | some ⟨_, size, _, _⟩ => (match placed (placeA size) parts with
      | some ps => (match fillL z ps with | some cs => some (.agg cs.toArray) | none => none)
      | none => none)
    | none => none)
  | _ => none

def eqV (op : BinOp) (d : TD) (x y : Value) : Option Value :=
  match op, d, x, y with
  | .eql, .ptr _, .pointer a, .pointer none => some (.bool a.isNone)
  | .neq, .ptr _, .pointer a, .pointer none => some (.bool (!a.isNone))
  | .eql, .slice _, .slice a _ _, .slice none _ _ => some (.bool a.isNone)
  | .neq, .slice _, .slice a _ _, .slice none _ _ => some (.bool (!a.isNone))
  | .eql, .bool, .bool a, .bool b => some (.bool (a == b))
  | .neq, .bool, .bool a, .bool b => some (.bool (a != b))
  | .eql, .str, .string a, .string b => some (.bool (a.toList == b.toList))
  | .neq, .str, .string a, .string b => some (.bool (!(a.toList == b.toList)))
  | _, _, _, _ => none

def mm3 (op : Builtin) (vs : List Value) : Option Value :=
  match op, vs with
  | .min, [.int k x, .int _ y] => some (.int k (min x y))
  | .max, [.int k x, .int _ y] => some (.int k (max x y))
  | .min, [.int k x, .int _ y, .int _ z] => some (.int k (min (min x y) z))
  | .max, [.int k x, .int _ y, .int _ z] => some (.int k (max (max x y) z))
  | _, _ => none

theorem min_if (x y : Int) : (if y < x then y else x) = min x y := by rw [Int.min_def]; split <;> split <;> omega
theorem max_if (x y : Int) : (if y > x then y else x) = max x y := by rw [Int.max_def]; split <;> split <;> omega

def stepV (op : Op) : Option Value :=
  match op with
  | .move x => evO E x
  | .assign x => evO E x
  | .pick c a b => (match evO E c with
    | some (.bool true) => (match evO E b with | some _ => evO E a | none => none)
    | some (.bool false) => evO E b
    | _ => none)
  | .nilCheck x => (match evO E x with
    | some (.pointer (some a)) => some (.pointer (some a))
    | some (.func (.func f) p q) => some (.func (.func f) p q)
    | _ => none)
  | .binOp op t x y _ => (match evO E x, evO E y with
    | some (.int k a), some (.int k' b) => binV op (.int k a) (.int k' b)
    | some u, some v => (match lookT T t with | some i => eqV op i.d u v | none => none)
    | _, _ => none)
  | .unOp op _ x => (match op, evO E x with
    | .not, some (.bool b) => some (.bool (!b))
    | .neg, some (.int k n) => some (.int k (k.wrap (0 - n)))
    | .xor, some (.int k n) => some (.int k (bits .xor k (if k.signed then -1 else k.max) n))
    | _, _ => none)
  | .convert src dst x => (match lookT T src, lookT T dst, evO E x with
    | some _, some ⟨.int k, _, _, _⟩, some (.int _ n) => some (.int k (k.wrap n))
    | _, _, _ => none)
  | .fieldAddr s x f => (match lookT T s, evO E x with
    | some ⟨.struct fs, _, _, _⟩, some (.pointer (some ⟨b, o, none⟩)) => (match nthF f fs with
      | some (ft, off) => (match lookT T ft with
        | some ⟨_, _ + 1, _, _⟩ => (match off with | 0 => some (.pointer (some ⟨b, o, none⟩)) | off + 1 => some (.pointer (some ⟨b, o + (off + 1), none⟩)))
        | _ => none)
      | none => none)
    | _, _ => none)
  | .field t x f => (match lookT T t, evO E x with
    | some ⟨.struct fs, _, _, _⟩, some (.agg cs) => (match nthF f fs with
      | some (ft, off) => partV T ft cs.toList off
      | none => none)
    | _, _ => none)
  | .indexAddr t x i => (match lookT T t, evO E x, evO E i with
    | some ⟨.arr n e, _, _, _⟩, some (.pointer (some ⟨b, o, none⟩)), some (.int _ (.ofNat j)) => (match lookT T e with
      | some ⟨_, size, _, _⟩ => bif Nat.blt j n then some (.pointer (some ⟨b, o + j * size, none⟩)) else none
      | none => none)
    | _, _, _ => none)
  | .index t x i => (match lookT T t, evO E x, evO E i with
    | some ⟨.arr n e, _, _, _⟩, some (.agg cs), some (.int _ (.ofNat j)) => (match lookT T e with
      | some ⟨_, size, _, _⟩ => bif Nat.blt j n then partV T e cs.toList (j * size) else none
      | none => none)
    | _, _, _ => none)
  | .extract x i => (match evO E x with
    | some (.tuple vs) => nthO i vs.toList
    | _ => none)
  | .makeFunc fn first cap => (match evArgs E first.toList, evArgs E cap.toList with
    | some a, some b => some (.func fn a.toArray b.toArray)
    | _, _ => none)
  | .build t parts => (match evParts E parts.toList with
    | some ps => buildV T t ps
    | none => none)
  | .call ⟨.builtin .len, args, ts⟩ => (match evArgs E args.toList, ts.toList with
    | some [.string s], [t] => (match lookT T t with | some ⟨.str, _, _, _⟩ => some (.int .i64 s.size) | _ => none)
    | some [.slice _ n _], [t] => (match lookT T t with | some ⟨.slice _, _, _, _⟩ => some (.int .i64 n) | _ => none)
    | some [.agg _], [t] => (match lookT T t with | some ⟨.arr n _, _, _, _⟩ => some (.int .i64 n) | _ => none)
    | some [.pointer _], [t] => (match lookT T t with | some ⟨.arr n _, _, _, _⟩ => some (.int .i64 n) | _ => none)
    | _, _ => none)
  | .call ⟨.builtin .min, args, _⟩ => (match evArgs E args.toList with
    | some vs => mm3 .min vs
    | none => none)
  | .call ⟨.builtin .max, args, _⟩ => (match evArgs E args.toList with
    | some vs => mm3 .max vs
    | none => none)
  | _ => none

end


section
variable {P : Program} {T : List (Nat × TI)} {E : List (Nat × Value)} {n : Nat} {a : Act} {w : World}

theorem TOk.und {t : Nat} {i : TI} (h : TOk P t i) (w : World) : ∃ x, (underlying t).run P w = .ok x w ∧ i.d.fits x ∧ P.underlying t = some x := by
  obtain ⟨x, hx, hf⟩ := h.under
  exact ⟨x, by rw [run_underlying hx], hf, hx⟩

theorem runM {α β : Type} {x : Sem α} {f : α → Sem β} {y : α} {w w' : World} (h : x.run P w = .ok y w') : (x >>= f).run P w = (f y).run P w' := by
  rw [Sem.run_bind, h]; rfl

theorem nthF_eq : ∀ (i : Nat) (l : List (TypeId × Nat)), nthF i l = l[i]?
  | _, [] => by simp [nthF]
  | 0, _ :: _ => by simp [nthF]
  | i + 1, _ :: xs => by simp [nthF, nthF_eq i xs]

theorem run_partV (hT : TabOk P T) {t : TypeId} {cs : Array Value} {off : Nat} {v : Value} (h : partV T t cs.toList off = some v) : (part t cs off).run P w = .ok v w := by
  unfold partV at h
  split at h
  · rename_i d size b z hl
    have ht := hT.at hl
    unfold part
    rw [runM (ht.isAgg w)]
    cases hd : d.agg
    · rw [hd] at h
      simp only [cond_eq_ite, Bool.false_eq_true, if_false, nthO_eq] at h
      have hc : cs[off]? = some v := by simpa using h
      simp [hc]
    · rw [hd] at h
      simp only [cond_eq_ite, if_true] at h
      split at h
      · rename_i l hl'
        obtain ⟨h1, h2⟩ := takeO_eq _ _ _ hl'
        simp only [Option.some.injEq] at h
        subst h
        simp only [if_true]
        rw [runM (ht.size w)]
        rw [dropO_eq] at h1
        have : cs.extract off (off + size) = l.toArray := by
          rw [h1]
          apply Array.ext'
          simp [List.extract_eq_take_drop]
        rw [this]; rfl
      · simp at h
  · simp at h


theorem run_equal_top {t : TypeId} {x y : Value} {b : Bool}
    (h : ∀ d, (Op.equalIn (d + 1) t x y).run P w = .ok b w) : (Op.equal t x y).run P w = .ok b w := h 9999

theorem run_equalIn_ptr {t e : TypeId} {d : Nat} {a b : Option Addr} (hu : P.underlying t = some (.pointer e)) (hb : b = none) : (Op.equalIn (d + 1) t (.pointer a) (.pointer b)).run P w = .ok a.isNone w := by
  subst hb
  simp only [Op.equalIn]
  rw [Sem.run_bind, run_underlying hu]
  cases a <;> rfl

theorem run_equalIn_slice {t e : TypeId} {d : Nat} {a : Option Addr} {l c l' c' : Nat} (hu : P.underlying t = some (.slice e)) : (Op.equalIn (d + 1) t (.slice a l c) (.slice none l' c')).run P w = .ok a.isNone w := by
  simp only [Op.equalIn]
  rw [Sem.run_bind, run_underlying hu]
  cases a <;> rfl

theorem run_equalIn_bool {t : TypeId} {d : Nat} {a b : Bool} (hu : P.underlying t = some .bool) : (Op.equalIn (d + 1) t (.bool a) (.bool b)).run P w = .ok (a == b) w := by
  simp only [Op.equalIn]
  rw [Sem.run_bind, run_underlying hu]
  rfl

theorem run_binEql {op : BinOp} {t : TypeId} {x y : Value} {b : Bool} (h : (Op.equal t x y).run P w = .ok b w) (hx : (∀ k i, x ≠ .int k i) ∧ (∀ k i, x ≠ .float k i) ∧ (∀ k i j, x ≠ .complex k i j) ∧ (∀ s, x ≠ .string s))
    (hop : op = .eql ∨ op = .neq) : (binOp op t x y).run P w = .ok (.bool (if op = .eql then b else !b)) w := by
  obtain ⟨h1, h2, h3, h4⟩ := hx
  rcases hop with rfl | rfl
  · have : binOp .eql t x y = (Op.equal t x y >>= fun r => pure (.bool r)) := by
      cases x <;> first | rfl | (cases y <;> rfl) | exact absurd rfl (h1 _ _) | exact absurd rfl (h2 _ _) | exact absurd rfl (h3 _ _ _) | exact absurd rfl (h4 _)
    rw [this, Sem.run_bind, h]; rfl
  · have : binOp .neq t x y = (Op.equal t x y >>= fun r => pure (.bool (!r))) := by
      cases x <;> first | rfl | (cases y <;> rfl) | exact absurd rfl (h1 _ _) | exact absurd rfl (h2 _ _) | exact absurd rfl (h3 _ _ _) | exact absurd rfl (h4 _)
    rw [this, Sem.run_bind, h]; rfl

theorem run_eqV (hT : TabOk P T) {op : BinOp} {t : TypeId} {i : TI} {x y v : Value} (hl : lookT T t = some i) (h : eqV op i.d x y = some v) :
    (binOp op t x y).run P w = .ok v w := by
  obtain ⟨q, hq, hf, hu⟩ := (hT.at hl).und w
  unfold eqV at h
  split at h <;> (try (simp at h; done)) <;> simp only [Option.some.injEq] at h <;> subst h <;> rename_i hd <;> rw [hd] at hf <;> simp only [TD.fits] at hf <;> subst hf
  case h_1 => exact run_binEql (run_equal_top fun d => run_equalIn_ptr hu rfl) (by simp) (.inl rfl)
  case h_2 => exact run_binEql (run_equal_top fun d => run_equalIn_ptr hu rfl) (by simp) (.inr rfl)
  case h_3 => exact run_binEql (run_equal_top fun d => run_equalIn_slice hu) (by simp) (.inl rfl)
  case h_4 => exact run_binEql (run_equal_top fun d => run_equalIn_slice hu) (by simp) (.inr rfl)
  case h_5 => exact run_binEql (run_equal_top fun d => run_equalIn_bool hu) (by simp) (.inl rfl)
  case h_6 => exact run_binEql (run_equal_top fun d => run_equalIn_bool hu) (by simp) (.inr rfl)
  case h_7 => rfl
  case h_8 => rfl

theorem evArgs_arr {xs : Array Operand} {vs : List Value} (hF : Fr n E a) (h : evArgs E xs.toList = some vs) : xs.map a.eval = vs.toArray := by
  apply Array.ext'
  simpa using hF.evalArgs h

theorem evParts_eq (hF : Fr n E a) : ∀ {l : List (Nat × Operand)} {ps : List (Nat × Value)}, evParts E l = some ps → l.map (fun x => (x.1, a.eval x.2)) = ps
  | [], ps, h => by simp [evParts] at h; simp [h]
  | (i, x) :: xs, ps, h => by
    simp only [evParts] at h
    split at h
    · simp at h
    · rename_i v hv
      split at h
      · simp at h
      · rename_i vs hvs
        simp only [Option.some.injEq] at h
        subst h
        simp [hF.eval hv, evParts_eq hF hvs]

theorem run_fieldSizes (hT : TabOk P T) {fs : List (TypeId × Nat)} : ∀ (l : List Field), l.map (fun x => (x.type, x.offset)) = fs →
    (∀ x ∈ fs, (lookT T x.1).isSome) →
    (l.mapM (m := Sem) fun f => do pure (f.offset, ← sizeOf f.type)).run P w = .ok (fs.map fun x => (x.2, ((lookT T x.1).map (·.size)).getD 0)) w := by
  induction fs with
  | nil => intro l h _; simp at h; subst h; rfl
  | cons x fs ih =>
    intro l h hall
    cases l with
    | nil => simp at h
    | cons f l =>
      simp only [List.map_cons, List.cons.injEq] at h
      obtain ⟨h1, h2⟩ := h
      subst h1
      have hs := hall _ (List.mem_cons_self ..)
      obtain ⟨i, hi⟩ := Option.isSome_iff_exists.1 hs
      rw [List.mapM_cons]
      have hsz := (hT.at hi).size w
      rw [Sem.run_bind, Sem.run_bind, hsz]
      simp only [Result.andThen]
      have := ih l h2 (fun x hx => hall x (List.mem_cons_of_mem _ hx))
      simp only [Sem.run_pure]
      rw [Sem.run_bind, this]
      simp [Result.andThen, hi]


theorem run_fieldSizes' (hT : TabOk P T) {fs : List (TypeId × Nat)} (l : Array Field) (h : l.toList.map (fun x => (x.type, x.offset)) = fs)
    (hall : ∀ x ∈ fs, (lookT T x.1).isSome) :
    (l.mapM (m := Sem) fun f => do pure (f.offset, ← sizeOf f.type)).run P w = .ok (fs.map fun x => (x.2, ((lookT T x.1).map (·.size)).getD 0)).toArray w := by
  rw [Array.mapM_eq_mapM_toList]
  have := run_fieldSizes (w := w) hT l.toList h hall
  rw [map_eq_pure_bind, Sem.run_bind, this]
  rfl

theorem allT_eq {T : List (Nat × TI)} : ∀ {fs : List (TypeId × Nat)}, allT T fs = true → ∀ x ∈ fs, (lookT T x.1).isSome
  | [], _, x, hx => by simp at hx
  | y :: r, h, x, hx => by
    simp only [allT, Bool.and_eq_true] at h
    rcases List.mem_cons.1 hx with rfl | hx
    · exact h.1
    · exact allT_eq h.2 x hx

theorem placeF_eq {fs : List (TypeId × Nat)} (hall : ∀ x ∈ fs, (lookT T x.1).isSome) (i : Nat) :
    placeF T fs i = (fs.map fun x => (x.2, ((lookT T x.1).map (·.size)).getD 0)).toArray[i]? := by
  unfold placeF
  rw [nthF_eq]
  simp only [List.getElem?_toArray, List.getElem?_map]
  cases h : fs[i]? with
  | none => rfl
  | some x =>
    have := hall x (List.mem_of_getElem? h)
    obtain ⟨q, hq⟩ := Option.isSome_iff_exists.1 this
    obtain ⟨t, off⟩ := x
    simp only at hq
    simp [hq]

theorem run_buildV (hT : TabOk P T) {t : TypeId} {parts : Array (Nat × Value)} {v : Value} (h : buildV T t parts.toList = some v) :
    (Instr.build t parts).run P w = .ok v w := by
  unfold buildV at h
  unfold Instr.build
  split at h
  · rename_i fs size bytes z hl
    split at h
    · rename_i ps hps
      split at h
      · rename_i cs hcs
        simp only [cond_eq_ite] at h
        split at h
        rotate_left
        · simp at h
        rename_i hcall
        simp only [Option.some.injEq] at h
        subst h
        obtain ⟨q, hq, hf, hu⟩ := (hT.at hl).und w
        obtain ⟨zv, hz, hzc⟩ := (hT.at hl).zero z rfl w
        obtain ⟨f, rfl, hff⟩ := hf
        have hall := allT_eq hcall
        rw [Sem.run_bind, hz]
        simp only [Result.andThen]
        rw [Sem.run_bind, hq]
        simp only [Result.andThen]
        · rw [Sem.run_bind, run_fieldSizes' hT f hff hall]
          simp only [Result.andThen]
          have := fill_of_fillL (place := placeF T fs) parts.toList ps z cs (by rw [placed_eq]; exact hps) hcs
          rw [show placeF T fs = fun i => (fs.map fun x => (x.2, ((lookT T x.1).map (·.size)).getD 0)).toArray[i]? from funext (placeF_eq hall)] at this
          rw [hzc, this]
          rfl
      · simp at h
    · simp at h
  · rename_i len e size bytes z hl
    split at h
    · rename_i _ se _ _ hle
      split at h
      · rename_i ps hps
        split at h
        · rename_i cs hcs
          simp only [Option.some.injEq] at h
          subst h
          obtain ⟨q, hq, hf, hu⟩ := (hT.at hl).und w
          obtain ⟨zv, hz, hzc⟩ := (hT.at hl).zero z rfl w
          simp only [TD.fits] at hf
          subst hf
          rw [Sem.run_bind, hz]
          simp only [Result.andThen]
          rw [Sem.run_bind, hq]
          simp only [Result.andThen]
          rw [Sem.run_bind, (hT.at hle).size w]
          simp only [Result.andThen]
          have := fill_of_fillL (place := placeA se) parts.toList ps z cs (by rw [placed_eq]; exact hps) hcs
          unfold placeA at this
          rw [hzc, this]
          rfl
        · simp at h
      · simp at h
    · simp at h
  · simp at h

end


section
variable {P : Program} {T : List (Nat × TI)} {E : List (Nat × Value)} {n : Nat} {a : Act} {w : World}

theorem run_v {s : Sem Value} {v : Value} (h : s.run P w = .ok v w) : (s >>= fun x => (pure (Next.value x) : Sem Next)).run P w = .ok (.value v) w := by
  rw [Sem.run_bind, h]; rfl

theorem addr_addn (b o n : Nat) : Addr.add ⟨b, o, none⟩ n = ⟨b, o + n, none⟩ := by
  unfold Addr.add; split <;> simp_all

theorem ok_fieldAddr (hT : TabOk P T) (hF : Fr n E a) {s : TypeId} {x : Operand} {f : Nat} {v : Value} (h : stepV T E (.fieldAddr s x f) = some v) :
    (Instr.fieldAt s (a.eval x) f).run P w = .ok v w := by
  simp only [stepV] at h
  split at h
  · rename_i fs size bytes z b o hl hx
    split at h
    · rename_i ft off hft
      split at h
      · rename_i d sz b' z' hlf
        have hv : v = .pointer (some ⟨b, o + off, none⟩) := by
          cases off <;> simp at h <;> simp [← h]
        subst hv
        obtain ⟨q, hq, hf, hu⟩ := (hT.at hl).und w
        obtain ⟨g, rfl, hg⟩ := hf
        rw [hF.eval hx]
        unfold Instr.fieldAt
        rw [runM hq]
        rw [nthF_eq, ← hg, List.getElem?_map] at hft
        cases hgf : g.toList[f]? with
        | none => simp [hgf] at hft
        | some y =>
          rw [hgf] at hft
          simp only [Option.map_some, Option.some.injEq, Prod.mk.injEq] at hft
          obtain ⟨rfl, rfl⟩ := hft
          have hgf' : g[f]? = some y := by simpa using hgf
          simp only [hgf', Instr.sureAddr, Sem.run_bind, Sem.run_pure, Result.andThen, fieldPlace]
          rw [(hT.at hlf).size w]
          simp [addr_addn]
      · simp at h
    · simp at h
  · simp at h

theorem ok_field (hT : TabOk P T) (hF : Fr n E a) {s : TypeId} {x : Operand} {f : Nat} {v : Value} (h : stepV T E (.field s x f) = some v) :
    (Instr.field s (a.eval x) f).run P w = .ok v w := by
  simp only [stepV] at h
  split at h
  · rename_i fs size bytes z cs hl hx
    split at h
    · rename_i ft off hft
      obtain ⟨q, hq, hf, hu⟩ := (hT.at hl).und w
      obtain ⟨g, rfl, hg⟩ := hf
      rw [hF.eval hx]
      unfold Instr.field
      rw [runM hq]
      rw [nthF_eq, ← hg, List.getElem?_map] at hft
      cases hgf : g.toList[f]? with
      | none => simp [hgf] at hft
      | some y =>
        rw [hgf] at hft
        simp only [Option.map_some, Option.some.injEq, Prod.mk.injEq] at hft
        obtain ⟨rfl, rfl⟩ := hft
        have hgf' : g[f]? = some y := by simpa using hgf
        simp only [hgf', asAgg, Sem.run_bind, Sem.run_pure, Result.andThen]
        exact run_partV hT h
    · simp at h
  · simp at h

theorem ok_indexAddr (hT : TabOk P T) (hF : Fr n E a) {t : TypeId} {x i : Operand} {v : Value} (h : stepV T E (.indexAddr t x i) = some v) :
    (Instr.indexAt t (a.eval x) (a.eval i)).run P w = .ok v w := by
  simp only [stepV] at h
  split at h
  · rename_i m e size bytes z b o k j hl hx hi
    split at h
    · rename_i d sz b' z' hle
      simp only [cond_eq_ite] at h
      split at h
      · rename_i hj
        have hj' : j < m := by simpa using hj
        simp only [Option.some.injEq] at h
        subst h
        obtain ⟨q, hq, hf, hu⟩ := (hT.at hl).und w
        simp only [TD.fits] at hf
        subst hf
        rw [hF.eval hx, hF.eval hi]
        unfold Instr.indexAt
        simp only [asIntOf, Instr.sureAddr, Sem.run_bind, Sem.run_pure, Result.andThen, hq]
        rw [if_pos ⟨Int.natCast_nonneg j, by simpa using hj'⟩]
        simp only [Sem.run_bind, (hT.at hle).size w, Result.andThen]
        simp [addr_addn]
      · simp at h
    · simp at h
  · simp at h

theorem ok_index (hT : TabOk P T) (hF : Fr n E a) {t : TypeId} {x i : Operand} {v : Value} (h : stepV T E (.index t x i) = some v) :
    (Instr.index t (a.eval x) (a.eval i)).run P w = .ok v w := by
  simp only [stepV] at h
  split at h
  · rename_i m e size bytes z cs k j hl hx hi
    split at h
    · rename_i d sz b' z' hle
      simp only [cond_eq_ite] at h
      split at h
      · rename_i hj
        have hj' : j < m := by simpa using hj
        obtain ⟨q, hq, hf, hu⟩ := (hT.at hl).und w
        simp only [TD.fits] at hf
        subst hf
        rw [hF.eval hx, hF.eval hi]
        unfold Instr.index
        simp only [asIntOf, Sem.run_bind, Sem.run_pure, Result.andThen, hq]
        rw [if_pos ⟨Int.natCast_nonneg j, by simpa using hj'⟩]
        simp only [Sem.run_bind, (hT.at hle).size w, Result.andThen]
        exact run_partV hT h
      · simp at h
    · simp at h
  · simp at h

theorem ok_len (hT : TabOk P T) (hF : Fr n E a) {args : Array Operand} {ts : Array TypeId} {ty : TypeId} {v : Value} (h : stepV T E (.call ⟨.builtin .len, args, ts⟩) = some v) :
    (Builtin.len_ ts ty (args.map a.eval)).run P w = .ok v w := by
  simp only [stepV] at h
  unfold Builtin.len_
  split at h
  case h_5 => simp at h
  all_goals
    rename_i t hx hts
    have hts' : ts = #[t] := by apply Array.ext'; simpa using hts
    rw [evArgs_arr hF hx, hts']
    split at h
    rotate_left
    · simp at h
    simp only [Option.some.injEq] at h
    subst h
    rename_i hl
    obtain ⟨q, hq, hf, hu⟩ := (hT.at hl).und w
    simp only [TD.fits] at hf
    subst hf
    simp only [List.getElem?_toArray, List.getElem?_cons_zero, Sem.run_bind, hq, Result.andThen]
    rfl

theorem ok_min (hF : Fr n E a) {args : Array Operand} {ts ts' : Array TypeId} {ty : TypeId} {v : Value} (h : stepV T E (.call ⟨.builtin .min, args, ts'⟩) = some v) :
    (Builtin.min_ ts ty (args.map a.eval)).run P w = .ok v w := by
  simp only [stepV] at h
  split at h
  · rename_i vs hx
    rw [evArgs_arr hF hx]
    unfold mm3 at h
    split at h <;> rename_i hop
    all_goals first
      | (simp at h; done)
      | (cases hop; done)
      | (simp only [Option.some.injEq] at h; subst h; simp only [Builtin.min_, Builtin.min2, min_if, List.foldlM_cons, List.foldlM_nil, Sem.run_bind, Sem.run_pure, Result.andThen])
  · simp at h

theorem ok_max (hF : Fr n E a) {args : Array Operand} {ts ts' : Array TypeId} {ty : TypeId} {v : Value} (h : stepV T E (.call ⟨.builtin .max, args, ts'⟩) = some v) :
    (Builtin.max_ ts ty (args.map a.eval)).run P w = .ok v w := by
  simp only [stepV] at h
  split at h
  · rename_i vs hx
    rw [evArgs_arr hF hx]
    unfold mm3 at h
    split at h <;> rename_i hop
    all_goals first
      | (simp at h; done)
      | (cases hop; done)
      | (simp only [Option.some.injEq] at h; subst h; simp only [Builtin.max_, Builtin.max2, max_if, List.foldlM_cons, List.foldlM_nil, Sem.run_bind, Sem.run_pure, Result.andThen])
  · simp at h

theorem eqGuard_plain {op : BinOp} {t : TypeId} {x y : Operand} {u v : Value} (h : isLit u = true) : eqGuard op t x y u v = pure () := by
  cases u <;> first | (simp [isLit] at h; done) | (cases op <;> rfl)

theorem eqV_lit {op : BinOp} {d : TD} {x y v : Value} (h : eqV op d x y = some v) : isLit x = true := by
  unfold eqV at h
  split at h <;> first | (simp at h; done) | rfl

end


section
variable {P : Program} {T : List (Nat × TI)} {E : List (Nat × Value)} {n : Nat} {w0 : World} {A : List Nat} {L : List Blk}
variable {ops : Array Oper} {Q : Exit → Act → World → Prop} {rest : List Oper}

theorem exec_builtin {a : Act} {w : World} {b : Builtin} {args : Array Operand} {ts : Array TypeId} {d : Option Tmp} {ty : TypeId} {pos : String} {aft : Array Edge} {g : Option (Nat × Bool)} :
    (execOp a.eval ⟨d, .call ⟨.builtin b, args, ts⟩, ty, pos, aft, g⟩).run P w =
      (builtin b ts ty (args.map fun | .const _ => true | _ => false) (args.map a.eval)).run P w := rfl

theorem stepV_ok (hT : TabOk P T) {op : Op} {ty : TypeId} {v : Value} (h : stepV T E op = some v) : Val P w0 A n E L op ty v := by
  intro a w hF hI d pos aft g
  cases op with
  | move x => simp only [stepV] at h; simp [execOp, hF.eval h]
  | assign x => simp only [stepV] at h; simp [execOp, hF.eval h]
  | pick c x y =>
    simp only [stepV] at h
    split at h
    · rename_i hc
      split at h
      · simp [execOp, hF.eval hc, hF.eval h, asBool]
      · simp at h
    · rename_i hc
      simp [execOp, hF.eval hc, hF.eval h, asBool]
    · simp at h
  | nilCheck x =>
    simp only [stepV] at h
    split at h
    · rename_i hx
      simp only [Option.some.injEq] at h
      subst h
      simp [execOp, hF.eval hx]
    · rename_i hx
      simp only [Option.some.injEq] at h
      subst h
      simp [execOp, hF.eval hx]
    · simp at h
  | binOp op t x y yt =>
    simp only [stepV] at h
    split at h
    · rename_i hx hy
      refine run_v ?_
      rw [hF.eval hx, hF.eval hy, eqGuard_plain (by rfl)]
      exact run_binV w h
    · rename_i u v _ hx hy
      split at h
      · rename_i i hl
        refine run_v ?_
        rw [hF.eval hx, hF.eval hy, eqGuard_plain (eqV_lit h)]
        exact run_eqV hT hl h
      · simp at h
    · simp at h
  | unOp op t x =>
    simp only [stepV] at h
    split at h <;> (try (simp at h; done)) <;> simp only [Option.some.injEq] at h <;> subst h <;> rename_i hx <;>
      refine run_v ?_ <;> rw [hF.eval hx] <;> rfl
  | convert src dst x =>
    simp only [stepV] at h
    split at h
    · rename_i i1 k s b z k' m hl1 hl2 hx
      simp only [Option.some.injEq] at h
      subst h
      refine run_v ?_
      obtain ⟨q1, hq1, hf1, hu1⟩ := (hT.at hl1).und w
      obtain ⟨q2, hq2, hf2, hu2⟩ := (hT.at hl2).und w
      simp only [TD.fits] at hf2
      subst hf2
      rw [hF.eval hx]
      unfold convert
      rw [runM hq1, runM hq2]
      cases q1 <;> rfl
    · simp at h
  | fieldAddr s x f => exact run_v (ok_fieldAddr hT hF h)
  | field s x f => exact run_v (ok_field hT hF h)
  | indexAddr t x i => exact run_v (ok_indexAddr hT hF h)
  | index t x i => exact run_v (ok_index hT hF h)
  | extract x i =>
    simp only [stepV] at h
    split at h
    · rename_i vs hx
      refine run_v ?_
      rw [hF.eval hx]
      rw [nthO_eq] at h
      have hv : vs[i]? = some v := by simpa using h
      simp [Instr.extract, hv]
    · simp at h
  | makeFunc fn first cap =>
    simp only [stepV] at h
    split at h
    · rename_i p q hp hq
      simp only [Option.some.injEq] at h
      subst h
      refine run_v ?_
      rw [evArgs_arr hF hp, evArgs_arr hF hq]
      rfl
    · simp at h
  | build t parts =>
    simp only [stepV] at h
    split at h
    · rename_i ps hp
      refine run_v ?_
      have he := evParts_eq hF hp
      have : (parts.map fun x => (x.1, a.eval x.2)) = ps.toArray := by
        apply Array.ext'; simpa using he
      rw [show (parts.map fun (x : Nat × Operand) => match x with | (i, x) => (i, a.eval x)) = ps.toArray from this]
      exact run_buildV hT (by simpa using h)
    · simp at h
  | call c =>
    obtain ⟨callee, args, ts⟩ := c
    cases callee with
    | builtin b =>
      cases b <;> first
        | (simp [stepV] at h; done)
        | (rw [exec_builtin]; exact run_v (ok_len hT hF h))
        | (rw [exec_builtin]; exact run_v (ok_min hF h))
        | (rw [exec_builtin]; exact run_v (ok_max hF h))
    | value f => simp [stepV] at h
    | invoke r m => simp [stepV] at h
  | _ => simp [stepV] at h

theorem wl_pure (hT : TabOk P T) {d : Nat} {op : Op} {ty : TypeId} {pos : String} {aft : Array Edge} {v : Value}
    (h : stepV T E op = some v) (hd : Nat.blt d n = true) (k : WL P ops Q w0 A n rest ((d, v) :: E) L) :
    WL P ops Q w0 A n (⟨some d, op, ty, pos, aft, none⟩ :: rest) E L := wl_val (stepV_ok hT h) hd k

end


def oneC : Value → Bool
  | .agg _ | .tuple _ => false
  | _ => true

def allOne : List Value → Bool
  | [] => true
  | x :: r => oneC x && allOne r

section
variable {P : Program} {T : List (Nat × TI)} {E : List (Nat × Value)} {n : Nat} {w0 : World} {A : List Nat} {L : List Blk}
variable {ops : Array Oper} {Q : Exit → Act → World → Prop} {rest : List Oper}

theorem cell_of {w : World} {b : Nat} {c : Array Value} {t : TypeId} {fz : Nat × Nat} (h : w.heap[b]? = some (.cells c t fz)) (i : Nat) : w.cell? ⟨b, i, none⟩ = c[i]? := by
  simp [World.cell?, h]

theorem run_loadVar_of (hT : TabOk P T) {t : TypeId} {w : World} {b o : Nat} {c : List Value} {v : Value}
    (hc : ∀ i v, c[i]? = some v → w.cell? ⟨b, i, none⟩ = some v) (h : partV T t c o = some v) : (loadVar t ⟨b, o, none⟩).run P w = .ok v w := by
  unfold partV at h
  split at h
  · rename_i d size _ _ hl
    have ht := hT.at hl
    unfold loadVar
    rw [runM (ht.isAgg w)]
    cases hd : d.agg
    · rw [hd] at h
      simp only [cond_eq_ite, Bool.false_eq_true, if_false, nthO_eq] at h
      simp only [Bool.false_eq_true, if_false]
      unfold load
      simp only [Sem.run, hc o v h]
    · rw [hd] at h
      simp only [cond_eq_ite, if_true] at h
      split at h
      · rename_i l hl'
        obtain ⟨h1, h2⟩ := takeO_eq _ _ _ hl'
        simp only [Option.some.injEq] at h
        subst h
        simp only [if_true]
        rw [runM (ht.size w)]
        have hlen : l.length = size := by rw [h1]; simp; omega
        have := run_loadCells_list (P := P) w ⟨b, o, none⟩ l (fun j v hj => by
          rw [addr_addn]
          refine hc _ _ ?_
          rw [h1, dropO_eq] at hj
          have hjl : j < size := by
            have := List.getElem?_eq_some_iff.1 hj
            obtain ⟨hh, _⟩ := this
            simp at hh; omega
          rw [List.getElem?_take_of_lt hjl, List.getElem?_drop] at hj
          exact hj)
        rw [hlen] at this
        rw [runM this]; rfl
      · simp at h
  · simp at h

theorem val_load (hT : TabOk P T) {t : TypeId} {x : Operand} {b o : Nat} {c : List Value} {t' : TypeId} {fz : Nat × Nat} {ty : TypeId} {v : Value}
    (hx : evO E x = some (.pointer (some ⟨b, o, none⟩))) (hm : (⟨b, c, t', fz⟩ : Blk) ∈ L) (hp : partV T t c o = some v) : Val P w0 A n E L (.load t x) ty v := by
  intro a w hF hI d pos aft g
  refine run_v ?_
  rw [hF.eval hx]
  unfold Instr.loadAt
  simp only [Instr.sureAddr, Sem.run_bind, Sem.run_pure, Result.andThen]
  refine run_loadVar_of hT (fun i v hi => ?_) hp
  rw [cell_of (hI.own _ hm)]
  simpa using hi

theorem wl_load (hT : TabOk P T) {t : TypeId} {x : Operand} {b o : Nat} {c : List Value} {t' : TypeId} {fz : Nat × Nat} {ty : TypeId} {v : Value} {d : Nat} {pos : String} {aft : Array Edge}
    (hx : evO E x = some (.pointer (some ⟨b, o, none⟩))) (hm : (⟨b, c, t', fz⟩ : Blk) ∈ L) (hp : partV T t c o = some v) (hd : Nat.blt d n = true)
    (k : WL P ops Q w0 A n rest ((d, v) :: E) L) : WL P ops Q w0 A n (⟨some d, .load t x, ty, pos, aft, none⟩ :: rest) E L :=
  wl_val (val_load hT hx hm hp) hd k

theorem wl_box {t : TypeId} {x : Operand} {ty : TypeId} {v : Value} {cs : List Value} {d : Nat} {pos : String} {aft : Array Edge}
    (hx : evO E x = some v) (hc : normO (cellsL v) = some cs) (hd : Nat.blt d n = true)
    (k : ∀ b, WL P ops Q w0 A n rest ((d, .pointer (some ⟨b, 0, none⟩)) :: E) (⟨b, cs, t, (0, 0)⟩ :: L)) :
    WL P ops Q w0 A n (⟨some d, .box t x, ty, pos, aft, none⟩ :: rest) E L := by
  refine wl_chg (S := fun v L' => ∃ b, v = .pointer (some ⟨b, 0, none⟩) ∧ L' = ⟨b, cs, t, (0, 0)⟩ :: L) ?_ hd (fun v L' ⟨b, h1, h2⟩ => by subst h1; subst h2; exact k b)
  intro a w hF hI d pos aft g
  refine ⟨.value (.pointer (some ⟨w.heap.size, 0, none⟩)), _, _, _, ?_, .inl rfl, hI.alloc cs t, w.heap.size, rfl, rfl⟩
  refine (Sem.run_bind _ _ _ _).trans ?_
  have : v.cells = cs.toArray := by rw [cellsL_eq, normO_eq hc]
  rw [hF.eval hx]
  show Result.andThen ((Instr.box t v).run P w) _ = _
  unfold Instr.box newVar newRow
  rw [this]
  rfl

theorem wl_alloc (hT : TabOk P T) {t : TypeId} {ty : TypeId} {td : TD} {sz by' : Nat} {z : List Value} {d : Nat} {pos : String} {aft : Array Edge}
    (hl : lookT T t = some ⟨td, sz, by', some z⟩) (hd : Nat.blt d n = true)
    (k : ∀ b, WL P ops Q w0 A n rest ((d, .pointer (some ⟨b, 0, none⟩)) :: E) (⟨b, z, t, (0, 0)⟩ :: L)) :
    WL P ops Q w0 A n (⟨some d, .alloc t, ty, pos, aft, none⟩ :: rest) E L := by
  refine wl_chg (S := fun v L' => ∃ b, v = .pointer (some ⟨b, 0, none⟩) ∧ L' = ⟨b, z, t, (0, 0)⟩ :: L) ?_ hd (fun v L' ⟨b, h1, h2⟩ => by subst h1; subst h2; exact k b)
  intro a w hF hI d pos aft g
  refine ⟨.value (.pointer (some ⟨w.heap.size, 0, none⟩)), _, _, _, ?_, .inl rfl, hI.alloc z t, w.heap.size, rfl, rfl⟩
  refine (Sem.run_bind _ _ _ _).trans ?_
  obtain ⟨v, hz, hc⟩ := (hT.at hl).zero z rfl w
  show Result.andThen ((Instr.alloc t true (.tuple #[])).run P w) _ = _
  unfold Instr.alloc newVar newRow
  rw [runM hz, hc]
  rfl

theorem setRange_eq : ∀ (vs cs : List Value) (off : Nat), off + vs.length ≤ cs.length → setRange cs off vs = cs.take off ++ vs ++ cs.drop (off + vs.length)
  | [], cs, off, _ => by simp [setRange]
  | v :: vs, cs, off, h => by
    simp only [setRange]
    simp only [List.length_cons] at h
    rw [setRange_eq vs (cs.set off v) (off + 1) (by simp; omega)]
    apply List.ext_getElem?
    intro i
    simp only [List.getElem?_append, List.length_take, List.length_set, List.length_append, List.length_cons, List.getElem?_take, List.getElem?_drop, List.getElem?_set, List.getElem?_cons]
    have h1 : min (off + 1) cs.length = off + 1 := by omega
    have h2 : min off cs.length = off := by omega
    rw [h1, h2]
    by_cases c1 : i < off
    · simp [c1, show i < off + 1 + vs.length from by omega, show i < off + 1 from by omega, show i < off + (vs.length + 1) from by omega, show off ≠ i from by omega]
    · by_cases c2 : i = off
      · subst c2
        simp [show i < i + 1 + vs.length from by omega, show i < i + 1 from by omega, show i < i + (vs.length + 1) from by omega, show i < cs.length from by omega]
      · by_cases c3 : i < off + 1 + vs.length
        · simp [c1, c3, show ¬ i < off + 1 from by omega, show i < off + (vs.length + 1) from by omega, show ¬ (i - off = 0) from by omega, show i - (off + 1) = i - off - 1 from by omega]
        · simp [c3, show ¬ i < off + (vs.length + 1) from by omega]
          rw [if_neg (by omega)]
          congr 1
          omega

theorem allOne_eq : ∀ {l : List Value}, allOne l = true → ∀ v ∈ l, v.oneCell' = true
  | [], _, v, hv => by simp at hv
  | x :: r, h, v, hv => by
    simp only [allOne, Bool.and_eq_true] at h
    rcases List.mem_cons.1 hv with rfl | hv
    · cases v <;> first | rfl | (simp [oneC] at h)
    · exact allOne_eq h.2 v hv

theorem Inv.setRow {w : World} {b : Nat} {c c' : List Value} {t : TypeId} {L' : List Blk} (hI : Inv w0 A w L)
    (hu : Upd L ⟨b, c, t, (0, 0)⟩ ⟨b, c', t, (0, 0)⟩ L') : Inv w0 A (w.setRow b c'.toArray) L' := by
  refine hI.upd hu rfl rfl rfl rfl (by simp [World.setRow]) (fun k _ hk => ?_) ?_
  · simp only [World.setRow, Array.getElem?_modify]
    rw [if_neg (fun h => hk h.symm)]
  · have := hI.own _ hu.mem
    simp only at this
    simp [World.setRow, Array.getElem?_modify, this]


theorem wl_store (hT : TabOk P T) {t : TypeId} {x y : Operand} {b o : Nat} {c c' vs : List Value} {t' : TypeId} {ty : TypeId} {v : Value} {i : TI} {pos : String} {aft : Array Edge} {L' : List Blk}
    (hx : evO E x = some (.pointer (some ⟨b, o, none⟩))) (hu : Upd L ⟨b, c, t', (0, 0)⟩ ⟨b, c', t', (0, 0)⟩ L') (hy : evO E y = some v) (hl : lookT T t = some i) (hv : normO (cellsL v) = some vs) (hlen : Nat.beq vs.length i.size = true)
    (h1 : allOne vs = true) (hs : setO c o vs = some c')
    (k : WL P ops Q w0 A n rest E L') : WL P ops Q w0 A n (⟨none, .store t x y, ty, pos, aft, none⟩ :: rest) E L := by
  refine wl_chg0 (S := fun v L'' => L'' = L') ?_ (fun v L'' h => by subst h; exact k)
  intro a w hF hI d pos aft g
  refine ⟨.skip, w.setRow b c'.toArray, undef, _, ?_, .inr ⟨rfl, rfl⟩, hI.setRow hu, rfl⟩
  refine (Sem.run_bind _ _ _ _).trans ?_
  show Result.andThen ((Instr.storeAt t (a.eval x) (a.eval y)).run P w) _ = _
  rw [hF.eval hx, hF.eval hy]
  unfold Instr.storeAt
  simp only [Instr.sureAddr, Sem.run_bind, Sem.run_pure, Result.andThen]
  unfold storeVar
  have hcs : v.cells = vs.toArray := by rw [cellsL_eq, normO_eq hv]
  rw [runM ((hT.at hl).size w), hcs]
  have hlen' : vs.length = i.size := by simpa using hlen
  obtain ⟨e1, e2⟩ := setO_eq hs
  rw [if_neg (by simp [hlen'])]
  have hown := hI.own _ hu.mem
  simp only at hown
  rcases e2 with e2 | e2
  · subst e2
    simp only [setRange] at e1
    subst e1
    simp only [storeCells, Sem.run_pure]
    rw [setRow_self w b c'.toArray t' (0, 0) hown]
  · have hst := run_storeCells_at (P := P) b o t' vs 0 c.toArray w hown (by simpa using e2) (allOne_eq h1)
    rw [show (⟨b, o, none⟩ : Addr) = ⟨b, o, none⟩ from rfl]
    rw [show storeCells ⟨b, o, none⟩ vs.toArray.toList = storeCells ⟨b, o, none⟩ vs 0 from rfl, hst, e1, setRange_eq _ _ _ e2]
    simp

/-! ### Calls -/
/-- A call that hands back one value and turns nothing. -/
def Pf (P : Program) (f : FuncId) (args : List Value) (R : World → Prop) (v : Value) : Prop :=
  ∀ w, R w → Calls P f args.toArray w fun e w' => e = .returned v ∧ Inv w [] w' []

theorem Inv.after {w w' : World} (h : Inv w0 A w L) (h' : Inv w [] w' []) : Inv w0 A w' L := by
  refine ⟨h'.os.trans h.os, h'.tape.trans h.tape, h'.output.trans h.output, Nat.le_trans h.size h'.size, fun k hk hA => ?_, fun p hp => ?_, h.nodup, h.new⟩
  · rw [h'.frame k (Nat.lt_of_lt_of_le hk h.size) (by simp)]; exact h.frame k hk hA
  · rw [h'.frame _ (h.lt hp) (by simp)]; exact h.own p hp

theorem Inv.afterSp {w w' : World} {pre F L' : List Blk} (h : Inv w0 A w L) (hL : L.Perm (pre ++ F)) (h' : Inv w (ids pre) w' L') : Inv w0 A w' (L' ++ F) := by
  have hI := h.perm hL
  have hdis : ∀ p ∈ F, p.id ∉ ids pre := by
    intro p hp hm
    have := hI.nodup
    unfold ids at this hm
    rw [List.map_append, List.nodup_append] at this
    exact this.2.2 _ hm _ (List.mem_map_of_mem hp) rfl
  refine ⟨h'.os.trans h.os, h'.tape.trans h.tape, h'.output.trans h.output, Nat.le_trans h.size h'.size, fun k hk hA => ?_, fun p hp => ?_, ?_, fun p hp => ?_⟩
  · rw [h'.frame k (Nat.lt_of_lt_of_le hk h.size) (fun hm => ?_)]
    · exact h.frame k hk hA
    · obtain ⟨p, hp, he⟩ := List.mem_map.1 hm
      rcases hI.new p (List.mem_append_left _ hp) with h3 | h3
      · exact hA (he ▸ h3)
      · omega
  · rcases List.mem_append.1 hp with hp | hp
    · exact h'.own p hp
    · rw [h'.frame _ (hI.lt (List.mem_append_right _ hp)) (hdis p hp)]
      exact hI.own p (List.mem_append_right _ hp)
  · unfold ids
    rw [List.map_append, List.nodup_append]
    have hn := hI.nodup
    unfold ids at hn
    rw [List.map_append, List.nodup_append] at hn
    refine ⟨h'.nodup, hn.2.1, fun x hx y hy he => ?_⟩
    subst he
    obtain ⟨p, hp, rfl⟩ := List.mem_map.1 hx
    obtain ⟨q, hq, he⟩ := List.mem_map.1 hy
    rcases h'.new p hp with h3 | h3
    · exact hdis q hq (he ▸ h3)
    · have := hI.lt (List.mem_append_right pre hq)
      omega
  · rcases List.mem_append.1 hp with hp | hp
    · rcases h'.new p hp with h3 | h3
      · obtain ⟨q, hq, he⟩ := List.mem_map.1 h3
        rw [← he]; exact hI.new q (List.mem_append_left _ hq)
      · exact .inr (Nat.le_trans h.size h3)
    · exact hI.new p (List.mem_append_right _ hp)

theorem wl_call {f : Operand} {args : Array Operand} {ts : Array TypeId} {ty : TypeId} {pos : String} {aft : Array Edge} {d : Nat} {g : FuncId} {p q : Array Value} {vs al : List Value}
    {S : Value → List Blk → Prop}
    (hc : ∀ args w, (callFunc g args).run P w = .ok (.enter g args) w)
    (hf : evO E f = some (.func (.func g) p q)) (ha : evArgs E args.toList = some vs) (hn : normO (p.toList ++ (vs ++ q.toList)) = some al)
    (h : ∀ w, Inv w0 A w L → Calls P g al.toArray w fun e w' => ∃ v L', e = .returned v ∧ Inv w0 A w' L' ∧ S v L')
    (hd : Nat.blt d n = true) (k : ∀ v L', S v L' → WL P ops Q w0 A n rest ((d, v) :: E) L') :
    WL P ops Q w0 A n (⟨some d, .call ⟨.value f, args, ts⟩, ty, pos, aft, none⟩ :: rest) E L := by
  intro a w hF hI
  refine wpList_bare rfl ?_
  unfold Oper.wp
  have hrun : (execOp a.eval ⟨some d, .call ⟨.value f, args, ts⟩, ty, pos, aft, none⟩).run P w = .ok (.enter g al.toArray) w := by
    have : execOp a.eval ⟨some d, .call ⟨.value f, args, ts⟩, ty, pos, aft, none⟩ = callFunc g ((p ++ args.map a.eval) ++ q) := by
      show (resolve a.eval ⟨.value f, args, ts⟩ ty >>= fun d => invoke d.target d.args) = _
      unfold resolve
      simp only [hF.eval hf]
      rfl
    rw [this, evArgs_arr hF ha, hc]
    rw [normO_eq hn]
    congr 2
    apply Array.ext'
    simp
  rw [hrun]
  show Calls P g al.toArray w _
  refine (h w hI).mono fun e w' ⟨v, L', he, hI', hS⟩ => ?_
  subst he
  exact k v L' hS _ _ (hF.put hd) hI'

theorem wl_pf {f : Operand} {args : Array Operand} {ts : Array TypeId} {ty : TypeId} {pos : String} {aft : Array Edge} {d : Nat} {g : FuncId} {p q : Array Value} {vs al : List Value}
    {R : World → Prop} {v : Value}
    (hc : ∀ args w, (callFunc g args).run P w = .ok (.enter g args) w)
    (hf : evO E f = some (.func (.func g) p q)) (ha : evArgs E args.toList = some vs) (hn : normO (p.toList ++ (vs ++ q.toList)) = some al)
    (h : Pf P g al R v) (hR : ∀ w, Inv w0 A w L → R w)
    (hd : Nat.blt d n = true) (k : WL P ops Q w0 A n rest ((d, v) :: E) L) :
    WL P ops Q w0 A n (⟨some d, .call ⟨.value f, args, ts⟩, ty, pos, aft, none⟩ :: rest) E L :=
  wl_call (S := fun v' L' => v' = v ∧ L' = L) hc hf ha hn (fun w hI => (h w (hR w hI)).mono fun _ _ ⟨he, hI'⟩ => ⟨v, L, he, hI.after hI', rfl, rfl⟩) hd
    (fun v' L' ⟨h1, h2⟩ => by subst h1; subst h2; exact k)

theorem wl_sp {f : Operand} {args : Array Operand} {ts : Array TypeId} {ty : TypeId} {pos : String} {aft : Array Edge} {d : Nat} {g : FuncId} {p q : Array Value} {vs al : List Value}
    {R : World → Prop} {S : Value → List Blk → Prop} {pre F : List Blk}
    (hc : ∀ args w, (callFunc g args).run P w = .ok (.enter g args) w)
    (hf : evO E f = some (.func (.func g) p q)) (ha : evArgs E args.toList = some vs) (hn : normO (p.toList ++ (vs ++ q.toList)) = some al)
    (h : Sp P g al pre R S) (hL : L.Perm (pre ++ F)) (hR : ∀ w, Inv w0 A w L → R w)
    (hd : Nat.blt d n = true) (k : ∀ v L', S v L' → WL P ops Q w0 A n rest ((d, v) :: E) (L' ++ F)) :
    WL P ops Q w0 A n (⟨some d, .call ⟨.value f, args, ts⟩, ty, pos, aft, none⟩ :: rest) E L :=
  wl_call (S := fun v' L' => ∃ L'', L' = L'' ++ F ∧ S v' L'') hc hf ha hn
    (fun w hI => (h w ⟨rfl, rfl, rfl, Nat.le_refl _, fun _ _ _ => rfl, fun p hp => (hI.perm hL).own p (List.mem_append_left _ hp), by
      have := (hI.perm hL).nodup
      unfold ids at this ⊢
      rw [List.map_append, List.nodup_append] at this
      exact this.1, fun p hp => .inl (List.mem_map_of_mem hp)⟩ (hR w hI)).mono fun _ _ ⟨v, L', he, hI', hS⟩ => ⟨v, L' ++ F, he, hI.afterSp hL hI', L', rfl, hS⟩) hd
    (fun v' L' ⟨L'', h1, h2⟩ => by subst h1; exact k v' L'' h2)

theorem pf_of_wc {f : FuncId} {fn : Func} {c : Code} {args : List Value} {R : World → Prop} {v : Value} {m : Nat} {E : List (Nat × Value)}
    (hf : P.funcs[f]? = some fn) (hb : fn.body = some c) (hm : fn.ntmps = m) (hE : zipO 0 args = some E) (hlen : Nat.ble args.length m = true)
    (h : ∀ w, R w → WC P (bodyPost P fn (fun e w' => e = .returned v ∧ Inv w [] w' [])) w [] m c E []) :
    Pf P f args R v := by
  intro w hR
  have := sp_of_wc (P := P) (pre := []) (R := fun w' => w' = w) (S := fun v' L' => v' = v ∧ L' = []) hf hb hm hE hlen (fun w' hw' a w1 hF hI => by
    subst hw'
    exact Code.wp_mono (fun e a w2 hq => by
      cases e <;> first | exact hq | (obtain ⟨h1, h2, h3, h4, h5⟩ := hq; exact ⟨h1, h2, h3, v, [], h4, h5, rfl, rfl⟩) | (obtain ⟨h1, h2, h3⟩ := hq; cases h2) | cases hq.1) (h _ hR a w1 hF hI)) w (Inv.start w) rfl
  exact this.mono fun e w' ⟨v', L', he, hI, h1, h2⟩ => by subst h1; subst h2; exact ⟨he, hI⟩

/-! ### Returns -/
inductive Res (T : List (Nat × TI)) (E : List (Nat × Value)) (L : List Blk) : List ResultVar → List Value → Prop
  | nil : Res T E L [] []
  | tmp {t : Nat} {v : Value} {rs : List ResultVar} {vs : List Value} (h : lookO E t = some v) (r : Res T E L rs vs) : Res T E L (.tmp t :: rs) (v :: vs)
  | cell {t : Nat} {ty : TypeId} {b o : Nat} {c : List Value} {t' : TypeId} {fz : Nat × Nat} {v : Value} {rs : List ResultVar} {vs : List Value}
    (h : lookO E t = some (.pointer (some ⟨b, o, none⟩))) (hm : (⟨b, c, t', fz⟩ : Blk) ∈ L) (hp : partV T ty c o = some v) (r : Res T E L rs vs) : Res T E L (.cell t ty :: rs) (v :: vs)

def resV : List Value → Value
  | [v] => v
  | vs => .tuple vs.toArray

def resF (tmps : Array Value) : ResultVar → Sem Value
  | .tmp t => pure (tmps.getD t undef)
  | .cell x t => asAddr (tmps.getD x undef) >>= fun a => loadVar t a

theorem results_eq (fn : Func) (tmps : Array Value) : results fn tmps = (fn.results.mapM (resF tmps) >>= fun vs => pure (if h : vs.size = 1 then vs[0] else .tuple vs)) := by
  unfold results
  congr 2

theorem Res.run (hT : TabOk P T) {a : Act} {w : World} (hF : Fr n E a) (hI : Inv w0 A w L) {rs : List ResultVar} {vs : List Value} (h : Res T E L rs vs) :
    (rs.mapM (resF a.tmps)).run P w = .ok vs w := by
  induction h with
  | nil => rfl
  | tmp h r ih =>
    rw [List.mapM_cons]
    have : a.tmps.getD _ undef = _ := hF.eval (x := .tmp _) h
    rw [Sem.run_bind]
    simp only [resF, this, Sem.run_pure, Result.andThen]
    rw [Sem.run_bind, ih]; rfl
  | cell h hm hp r ih =>
    rw [List.mapM_cons]
    have : a.tmps.getD _ undef = _ := hF.eval (x := .tmp _) h
    rw [Sem.run_bind]
    simp only [resF, this, asAddr, Sem.run_bind, Sem.run_pure, Result.andThen]
    rw [run_loadVar_of hT (fun i v hi => by rw [cell_of (hI.own _ hm)]; simpa using hi) hp]
    simp only []
    rw [ih]

theorem wx_ret (hT : TabOk P T) {fn : Func} {R : Ending → World → Prop} {rs : List ResultVar} {vs : List Value} {e : Exit} (he : e = .ret ∨ e = .normal) (hr : fn.results = rs.toArray) (h : Res T E L rs vs)
    (hR : ∀ w, Inv w0 A w L → R (.returned (resV vs)) w) : WX (bodyPost P fn R) w0 A n e E L := by
  intro a w hF hI
  have hrun : (results fn a.tmps).run P w = .ok (resV vs) w := by
    rw [results_eq, hr, Array.mapM_eq_mapM_toList, map_eq_pure_bind, Sem.run_bind, Sem.run_bind]
    have := h.run hT hF hI
    simp only at this ⊢
    rw [this]
    simp only [Result.andThen, Sem.run_pure]
    congr 1
    cases vs with
    | nil => rfl
    | cons v vs => cases vs <;> rfl
  rcases he with rfl | rfl
  · exact ⟨hF.defers, _, hrun, hR w hI⟩
  · exact ⟨hF.defers, _, hrun, hR w hI⟩


theorem wx_pf (hT : TabOk P T) {fn : Func} {v : Value} {rs : List ResultVar} {vs : List Value} {e : Exit} (he : e = .ret ∨ e = .normal) (hr : fn.results = rs.toArray) (h : Res T E L rs vs)
    (hv : resV vs = v) : WX (bodyPost P fn (fun e w' => e = .returned v ∧ Inv w0 [] w' [])) w0 [] n e E L :=
  wx_ret hT he hr h fun w hI => ⟨by rw [hv], hI.none⟩

theorem wx_sp (hT : TabOk P T) {fn : Func} {S : Value → List Blk → Prop} {rs : List ResultVar} {vs : List Value} {e : Exit} {L' : List Blk} (he : e = .ret ∨ e = .normal) (hr : fn.results = rs.toArray) (h : Res T E L rs vs)
    (hL : ∃ R, L.Perm (L' ++ R)) (hS : S (resV vs) L') : WX (bodyPost P fn (fun e w' => ∃ v L', e = .returned v ∧ Inv w0 A w' L' ∧ S v L')) w0 A n e E L :=
  wx_ret hT he hr h fun w hI => ⟨_, L', rfl, hI.sub hL, hS⟩

/-! ### A value in another form -/
end


section
variable {P : Program} {T : List (Nat × TI)} {E : List (Nat × Value)} {n : Nat} {w0 : World} {A : List Nat} {L : List Blk}
variable {ops : Array Oper} {Q : Exit → Act → World → Prop} {rest : List Oper}

def WQ (P : Program) (ops : Array Oper) (Q : Exit → Act → World → Prop) (w0 : World) (A : List Nat) (n : Nat) (rest : List Oper) (E : List (Nat × Value)) (L : List Blk) : Prop :=
  ∀ a, Fr n E a → wpQuiet P ops (fun w => Inv w0 A w L) (fun a' => ∀ w', Inv w0 A w' L → Q .normal a' w') rest a

theorem wc_quiet {id : Nat} {l : List Oper} (hm : P.follows .mixedOrders = true) (hB : Region.lexB .any l.toArray = true)
    (k : WQ P l.toArray Q w0 A n l E L) : WC P Q w0 A n (.region id l.toArray true) E L :=
  fun a w hF hI => wp_region_quiet (C := fun w => Inv w0 A w L) hm hB (hI.drew _) (k a hF)

theorem wq_nil (k : WX Q w0 A n .normal E L) : WQ P ops Q w0 A n [] E L := fun a hF w hI => k a w hF hI

theorem wpQuiet_bare {C : World → Prop} {Qa : Act → Prop} {a : Act} {o : Oper} (hg : o.guard = none) (h : o.quiet P a C (wpQuiet P ops C Qa rest)) : wpQuiet P ops C Qa (o :: rest) a := by
  unfold wpQuiet
  rw [if_pos (by simp [Region.wanted, hg])]
  exact h

theorem wq_val {d : Nat} {op : Op} {ty : TypeId} {pos : String} {aft : Array Edge} {v : Value}
    (hv : Val P w0 A n E L op ty v) (hd : Nat.blt d n = true) (k : WQ P ops Q w0 A n rest ((d, v) :: E) L) :
    WQ P ops Q w0 A n (⟨some d, op, ty, pos, aft, none⟩ :: rest) E L := by
  intro a hF
  refine wpQuiet_bare rfl ⟨v, fun w hI => ?_, k _ (hF.put hd)⟩
  unfold Oper.quietAt
  rw [hv a w hF hI]
  exact ⟨rfl, rfl⟩

theorem wq_pure (hT : TabOk P T) {d : Nat} {op : Op} {ty : TypeId} {pos : String} {aft : Array Edge} {v : Value}
    (h : stepV T E op = some v) (hd : Nat.blt d n = true) (k : WQ P ops Q w0 A n rest ((d, v) :: E) L) :
    WQ P ops Q w0 A n (⟨some d, op, ty, pos, aft, none⟩ :: rest) E L := wq_val (stepV_ok hT h) hd k

theorem wq_load (hT : TabOk P T) {t : TypeId} {x : Operand} {b o : Nat} {c : List Value} {t' : TypeId} {fz : Nat × Nat} {ty : TypeId} {v : Value} {d : Nat} {pos : String} {aft : Array Edge}
    (hx : evO E x = some (.pointer (some ⟨b, o, none⟩))) (hm : (⟨b, c, t', fz⟩ : Blk) ∈ L) (hp : partV T t c o = some v) (hd : Nat.blt d n = true)
    (k : WQ P ops Q w0 A n rest ((d, v) :: E) L) : WQ P ops Q w0 A n (⟨some d, .load t x, ty, pos, aft, none⟩ :: rest) E L :=
  wq_val (val_load hT hx hm hp) hd k

theorem wq_pf {f : Operand} {args : Array Operand} {ts : Array TypeId} {ty : TypeId} {pos : String} {aft : Array Edge} {d : Nat} {g : FuncId} {p q : Array Value} {vs al : List Value}
    {R : World → Prop} {v : Value}
    (hc : ∀ args w, (callFunc g args).run P w = .ok (.enter g args) w)
    (hf : evO E f = some (.func (.func g) p q)) (ha : evArgs E args.toList = some vs) (hn : normO (p.toList ++ (vs ++ q.toList)) = some al)
    (h : Pf P g al R v) (hR : ∀ w, Inv w0 A w L → R w)
    (hd : Nat.blt d n = true) (k : WQ P ops Q w0 A n rest ((d, v) :: E) L) :
    WQ P ops Q w0 A n (⟨some d, .call ⟨.value f, args, ts⟩, ty, pos, aft, none⟩ :: rest) E L := by
  intro a hF
  refine wpQuiet_bare rfl ⟨v, fun w hI => ?_, k _ (hF.put hd)⟩
  unfold Oper.quietAt
  have hrun : (execOp a.eval ⟨some d, .call ⟨.value f, args, ts⟩, ty, pos, aft, none⟩).run P w = .ok (.enter g al.toArray) w := by
    have : execOp a.eval ⟨some d, .call ⟨.value f, args, ts⟩, ty, pos, aft, none⟩ = callFunc g ((p ++ args.map a.eval) ++ q) := by
      show (resolve a.eval ⟨.value f, args, ts⟩ ty >>= fun d => invoke d.target d.args) = _
      unfold resolve
      simp only [hF.eval hf]
      rfl
    rw [this, evArgs_arr hF ha, hc]
    rw [normO_eq hn]
    congr 2
    apply Array.ext'
    simp
  rw [hrun]
  exact ⟨rfl, (h w (hR w hI)).mono fun _ _ ⟨he, hI'⟩ => ⟨he, hI.after hI'⟩⟩

end




/-! ### A region that draws its order, whose stores go to blocks that nothing else of it touches: one walk of the lexical order -/
section
variable {P : Program} {ops : Array Oper} {md : Region.Mode} {F : Array Bool → World → Prop}

def softUpon (P : Program) (C : World → Prop) (v : Value) : Result Next → Prop
  | .ok (.value u) w' => C w' ∧ u = v
  | .ok .skip w' => C w' ∧ v = undef
  | .ok (.enter f args) w' => Calls P f args w' (fun e w'' => e = .returned v ∧ C w'')
  | _ => False

def softAt (P : Program) (o : Oper) (i : Nat) (a : Act) (F : Array Bool → World → Prop) (v : Value) : Prop :=
  ∀ l w, l.getD i true = false → F l w → softUpon P (F (l.setIfInBounds i true)) v ((execOp a.eval o).run P w)

def skipAt (i : Nat) (F : Array Bool → World → Prop) : Prop := ∀ l w, l.getD i true = false → F l w → F (l.setIfInBounds i true) w

def YieldsF (P : Program) (ops : Array Oper) (F : Array Bool → World → Prop) (i : Nat) (o : Oper) (v : Value) (a : Act) : Prop :=
  (Region.wanted o (yielded ops a.tmps) = true ∧ softAt P o i a F v) ∨
  (Region.wanted o (yielded ops a.tmps) = false ∧ v = undef ∧ skipAt i F)

theorem YieldsF.of_same {i : Nat} {o : Oper} {v : Value} {a a' : Act} (hy : YieldsF P ops F i o v a) (he : execOp a'.eval o = execOp a.eval o)
    (hw : Region.wanted o (yielded ops a'.tmps) = Region.wanted o (yielded ops a.tmps)) : YieldsF P ops F i o v a' := by
  unfold YieldsF softAt at *
  rw [he, hw]
  exact hy

end

section
variable {P : Program} {T : List (Nat × TI)} {E : List (Nat × Value)} {n : Nat} {w0 : World} {A : List Nat} {L Lr : List Blk}
variable {ops : Array Oper} {Q : Exit → Act → World → Prop} {rest : List Oper} {S : List (Nat × Blk × List Value)} {k : Nat}

def Lf (S : List (Nat × Blk × List Value)) (l : Array Bool) : List Blk :=
  S.map fun s => ⟨s.2.1.id, if l.getD s.1 false then s.2.2 else s.2.1.c, s.2.1.t, s.2.1.fz⟩

theorem Inv.right {w : World} {X : List Blk} (h : Inv w0 A w (X ++ Lr)) : Inv w0 A w Lr := h.sub ⟨X, List.perm_append_comm⟩

end

section
variable {P : Program} {T : List (Nat × TI)} {E : List (Nat × Value)} {n : Nat} {w0 : World} {A : List Nat} {L Lr : List Blk}
variable {ops : Array Oper} {Q : Exit → Act → World → Prop} {rest : List Oper} {S : List (Nat × Blk × List Value)} {k : Nat}

def pick : List Blk → Nat → Option (Blk × List Blk)
  | [], _ => none
  | x :: xs, 0 => some (x, xs)
  | x :: xs, k + 1 => match pick xs k with
    | none => none
    | some (y, r) => some (y, x :: r)

theorem pick_perm : ∀ {L : List Blk} {i : Nat} {p : Blk} {r : List Blk}, pick L i = some (p, r) → L.Perm (p :: r)
  | [], _, _, _, h => by simp [pick] at h
  | x :: xs, 0, p, r, h => by simp [pick] at h; obtain ⟨rfl, rfl⟩ := h; exact List.Perm.refl _
  | x :: xs, k + 1, p, r, h => by
    simp only [pick] at h
    split at h
    · simp at h
    · rename_i y s hs
      simp only [Option.some.injEq, Prod.mk.injEq] at h
      obtain ⟨rfl, rfl⟩ := h
      exact ((pick_perm hs).cons x).trans (List.Perm.swap _ _ _)

end



theorem Pf.run {P : Program} {f : FuncId} {args : List Value} {R : World → Prop} {v : Value} (h : Pf P f args R v) (w : World) (hR : R w) :
    Calls P f args.toArray w fun e w' => e = .returned v ∧ Inv w [] w' [] := h w hR
theorem Sp.run {P : Program} {f : FuncId} {args : List Value} {pre : List Blk} {R : World → Prop} {S : Value → List Blk → Prop} (h : Sp P f args pre R S) (w : World) (hI : Inv w (ids pre) w pre) (hR : R w) :
    Calls P f args.toArray w fun e w' => ∃ v L', e = .returned v ∧ Inv w (ids pre) w' L' ∧ S v L' := h w hI hR

/-! ### A region that draws its order: quiet operations in any order between operations that come one behind the other -/
section
variable {P : Program} {ops : Array Oper} {md : Region.Mode} {S : World → Prop} {late : Nat → Bool}

def sUpon (P : Program) (o : Oper) (a : Act) (K : Act → World → Prop) : Result Next → Prop
  | .ok (.value u) w' => K (a.put o.dst u) w'
  | .ok .skip w' => K (a.put o.dst undef) w'
  | .ok (.enter f args) w' => Calls P f args w' (fun e w'' => ∃ u, e = .returned u ∧ K (a.put o.dst u) w'')
  | _ => False

def sOp (P : Program) (ops : Array Oper) (i : Nat) (K : Act → World → Prop) (a : Act) (w : World) : Prop :=
  match ops[i]? with
  | none => K a w
  | some o => if Region.wanted o (yielded ops a.tmps) then sUpon P o a K ((execOp a.eval o).run P w) else K (a.put o.dst undef) w

theorem sUpon_mono {o : Oper} {a : Act} {K K' : Act → World → Prop} {r : Result Next} (h : ∀ a w, K a w → K' a w) (hh : sUpon P o a K r) : sUpon P o a K' r := by
  cases r with
  | ok n w' =>
    cases n <;> simp only [sUpon] at hh ⊢
    case value u => exact h _ _ hh
    case skip => exact h _ _ hh
    case enter f args => exact hh.mono fun e w'' ⟨u, he, hk⟩ => ⟨u, he, h _ _ hk⟩
  | halt x w' => exact hh

theorem sOp_mono {i : Nat} {a : Act} {w : World} {K K' : Act → World → Prop} (h : ∀ a w, K a w → K' a w) (hh : sOp P ops i K a w) : sOp P ops i K' a w := by
  unfold sOp at *
  split
  · rename_i ho; simp only [ho] at hh; exact h _ _ hh
  · rename_i o ho
    simp only [ho] at hh
    split
    · rename_i hw; simp only [hw, if_true] at hh; exact sUpon_mono h hh
    · rename_i hw; simp only [hw] at hh; exact h _ _ hh

theorem wpOp_of_sOp {i : Nat} {a : Act} {w : World} {K : Act → World → Prop} {Q' : Exit → Act → World → Prop} (hh : sOp P ops i K a w) : wpOp P ops Q' i K a w := by
  unfold sOp at hh
  unfold wpOp
  split
  · rename_i ho; simp only [ho] at hh; exact hh
  · rename_i o ho
    simp only [ho] at hh
    split
    · rename_i hw
      simp only [hw, if_true] at hh
      left
      unfold Oper.wp
      generalize (execOp a.eval o).run P w = r at *
      cases r with
      | ok n w' =>
        cases n <;> simp only [sUpon] at hh <;> simp only [Oper.upon]
        case value u => exact hh
        case skip => exact hh
        case enter f args => exact hh.mono fun e w'' ⟨u, he, hk⟩ => by subst he; exact hk
      | halt x w' => simp only [sUpon] at hh
    · rename_i hw; simp only [hw] at hh; exact hh

def wpAnyK (P : Program) (md : Region.Mode) (ops : Array Oper) (S : World → Prop) (late : Nat → Bool) (Q : Act → World → Prop) : Nat → Array Bool → Act → World → Prop
  | 0, listed, a, w => Region.ready md ops listed = [] ∧ Q a w
  | fuel + 1, listed, a, w =>
    (Region.ready md ops listed = [] → Q a w) ∧
    ∀ i ∈ Region.ready md ops listed, sOp P ops i (fun a' w' => (late i = false → S w') ∧ wpAnyK P md ops S late Q fuel (listed.setIfInBounds i true) a' w') a w

theorem wpAny_of_K {Q : Act → World → Prop} {Q' : Exit → Act → World → Prop} (hQ : ∀ a w, Q a w → Q' .normal a w) : ∀ (fuel : Nat) (listed : Array Bool) (a : Act) (w : World),
    wpAnyK P md ops S late Q fuel listed a w → wpAny P md ops Q' fuel listed a w
  | 0, _, _, _, h => ⟨h.1, hQ _ _ h.2⟩
  | fuel + 1, _, _, _, h => ⟨fun h0 => hQ _ _ (h.1 h0), fun i hi => wpOp_of_sOp (sOp_mono (fun a' w' h' => wpAny_of_K hQ fuel _ a' w' h'.2) (h.2 i hi))⟩

/-- In every world of S the operation yields v and leaves a world of S. -/
def QuietK (P : Program) (ops : Array Oper) (S : World → Prop) (o : Oper) (v : Value) (a : Act) : Prop :=
  (Region.wanted o (yielded ops a.tmps) = true ∧ ∀ w, S w → (match (execOp a.eval o).run P w with
    | .ok (.value u) w' => w' = w ∧ u = v
    | _ => False)) ∨
  (Region.wanted o (yielded ops a.tmps) = false ∧ v = undef)

theorem QuietK.of_same {o : Oper} {v : Value} {a a' : Act} (hy : QuietK P ops S o v a) (he : execOp a'.eval o = execOp a.eval o)
    (hw : Region.wanted o (yielded ops a'.tmps) = Region.wanted o (yielded ops a.tmps)) : QuietK P ops S o v a' := by
  unfold QuietK at *
  rw [he, hw]
  exact hy

theorem QuietK.sOp {i : Nat} {o : Oper} {v : Value} {a : Act} {w : World} (hi : ops[i]? = some o) (hy : QuietK P ops S o v a) (hS : S w) {K : Act → World → Prop} (h : K (a.put o.dst v) w) : sOp P ops i K a w := by
  unfold Eng.sOp
  simp only [hi]
  rcases hy with ⟨hw, hv⟩ | ⟨hw, rfl⟩
  · simp only [hw, if_true]
    have h1 := hv w hS
    generalize (execOp a.eval o).run P w = r at *
    cases r with
    | ok n w' =>
      cases n <;> simp only at h1 <;> simp only [sUpon]
      case value u => obtain ⟨rfl, rfl⟩ := h1; exact h
    | halt x w' => exact h1.elim
  · simp only [hw, Bool.false_eq_true, if_false]; exact h

theorem sOp_put {j : Nat} {oi oj : Oper} {v : Value} (hj : ops[j]? = some oj) (hap : oi.apart ops oj = true)
    (hsi : ∀ cs b, oi.op ≠ .select cs b) (hsj : ∀ cs b, oj.op ≠ .select cs b) {K : Act → World → Prop} {a : Act} {w : World}
    (hy : QuietK P ops S oi v a) (h : sOp P ops j K (a.put oi.dst v) w) :
    sOp P ops j (fun a' w' => QuietK P ops S oi v a' ∧ K (a'.put oi.dst v) w') a w := by
  obtain ⟨h1, h2, h3⟩ := Oper.apart_spec hap
  have keep : ∀ (a : Act), QuietK P ops S oi v a → ∀ u, QuietK P ops S oi v (a.put oj.dst u) := fun a hy u =>
    hy.of_same (execOp_put oi hsi a oj.dst u h3) (wanted_put oi a oj.dst u h3)
  unfold sOp at *
  simp only [hj] at *
  rw [wanted_put oj a oi.dst v h1] at h
  split
  · rename_i hw
    simp only [hw, if_true] at h
    rw [execOp_put oj hsj a oi.dst v h1] at h
    generalize (execOp a.eval oj).run P w = r at *
    cases r with
    | ok n w' =>
      cases n <;> simp only [sUpon] at h ⊢
      case value u => exact ⟨keep a hy u, by rw [← Act.put_comm a v u h2]; exact h⟩
      case skip => exact ⟨keep a hy _, by rw [← Act.put_comm a v undef h2]; exact h⟩
      case enter f args => exact h.mono fun e w'' ⟨u, he, hk⟩ => ⟨u, he, keep a hy u, by rw [← Act.put_comm a v u h2]; exact hk⟩
    | halt x w' => exact h
  · rename_i hw
    simp only [hw] at h
    exact ⟨keep a hy _, by rw [← Act.put_comm a v undef h2]; exact h⟩

def waits (md : Region.Mode) (oj : Oper) (i : Nat) : Bool := oj.after.any fun e => Region.binds md e && (e.on == i)

/-- May operation i be taken first? It may come up, and every other that has not come up waits for it, or is apart from it and not late. -/
def freeK (md : Region.Mode) (ops : Array Oper) (late : Nat → Bool) (listed : Array Bool) (i : Nat) : Bool :=
  (Region.ready md ops listed).contains i && match ops[i]? with
  | none => false
  | some oi => (List.range ops.size).all fun j => j == i || listed.getD j true || match ops[j]? with
    | none => true
    | some oj => waits md oj i || (oi.apart ops oj && !(late j))

theorem freeK_spec {listed : Array Bool} {i : Nat} {oi : Oper} (hi : ops[i]? = some oi) (h : freeK md ops late listed i = true) :
    i ∈ Region.ready md ops listed ∧ ∀ j oj, ops[j]? = some oj → j ≠ i → listed.getD j true = false → (∀ e ∈ oj.after, Region.binds md e = true → e.on ≠ i) → oi.apart ops oj = true ∧ late j = false := by
  unfold freeK at h
  simp only [hi, Bool.and_eq_true] at h
  refine ⟨by simpa using h.1, fun j oj hj hji hl hno => ?_⟩
  have hjs : j < ops.size := (Array.getElem?_eq_some_iff.1 hj).1
  have h2 := List.all_eq_true.1 h.2 j (List.mem_range.2 hjs)
  simp only [hj, hl, Bool.or_false, Bool.or_eq_true, beq_iff_eq, hji, false_or, Bool.and_eq_true, Bool.not_eq_true'] at h2
  rcases h2 with h2 | h2
  · unfold waits at h2
    obtain ⟨e, he, hb⟩ := Array.any_eq_true'.1 h2
    simp only [Bool.and_eq_true, beq_iff_eq] at hb
    exact absurd hb.2 (hno e he hb.1)
  · exact h2

theorem wpAnyK_first {Q : Act → World → Prop} {i : Nat} {oi : Oper} {v : Value} (hi : ops[i]? = some oi) (hsel : ∀ (j : Nat) (o : Oper) cs b, ops[j]? = some o → o.op ≠ .select cs b) :
    ∀ (fuel : Nat) (listed : Array Bool) (a : Act) (w : World),
      (∀ j oj, ops[j]? = some oj → j ≠ i → listed.getD j true = false → (∀ e ∈ oj.after, Region.binds md e = true → e.on ≠ i) → oi.apart ops oj = true ∧ late j = false) →
      i ∈ Region.ready md ops listed → QuietK P ops S oi v a → S w →
      wpAnyK P md ops S late Q fuel (listed.setIfInBounds i true) (a.put oi.dst v) w → wpAnyK P md ops S late Q (fuel + 1) listed a w := by
  intro fuel
  induction fuel with
  | zero =>
    intro listed a w _ hr hy hS H
    refine ⟨fun h => (by rw [h] at hr; cases hr), fun j hj => ?_⟩
    by_cases hji : j = i
    · subst hji; exact hy.sOp hi hS ⟨fun _ => hS, H⟩
    · have := ready_mono hj hji
      rw [H.1] at this
      cases this
  | succ fuel ih =>
    intro listed a w hfree hr hy hS H
    refine ⟨fun h => (by rw [h] at hr; cases hr), fun j hj => ?_⟩
    by_cases hji : j = i
    · subst hji; exact hy.sOp hi hS ⟨fun _ => hS, H⟩
    · have h1 := H.2 j (ready_mono hj hji)
      obtain ⟨hjun, oj, hoj, hall⟩ := mem_ready.1 hj
      have hnot : ∀ e ∈ oj.after, Region.binds md e = true → e.on ≠ i := fun e he hb heq => by
        have h1 := hall e he hb
        have h0 := (mem_ready.1 hr).1
        rw [heq] at h1
        rcases Nat.lt_or_ge i listed.size with h' | h'
        · simp [h'] at h0 h1; rw [h0] at h1; cases h1
        · simp [Array.getElem?_eq_none h'] at h1
      obtain ⟨hap, hlate⟩ := hfree j oj hoj hji hjun hnot
      have h2 := sOp_put hoj hap (fun cs b => hsel i oi cs b hi) (fun cs b => hsel j oj cs b hoj) hy h1
      have hfree' : ∀ k ok, ops[k]? = some ok → k ≠ i → (listed.setIfInBounds j true).getD k true = false →
          (∀ e ∈ ok.after, Region.binds md e = true → e.on ≠ i) → oi.apart ops ok = true ∧ late k = false := fun k ok hk hki hun hno => by
        refine hfree k ok hk hki ?_ hno
        by_cases hjk : j = k
        · subst hjk; exact hjun
        · rw [getD_set_ne true hjk] at hun; exact hun
      refine sOp_mono (fun a' w' h3 => ⟨h3.2.1, ih (listed.setIfInBounds j true) a' w' hfree' (ready_mono hr (Ne.symm hji)) h3.1 (h3.2.1 hlate) ?_⟩) h2
      rw [Array.setIfInBounds_comm _ _ hji]
      exact h3.2.2

/-- The one operation that may come up. -/
theorem wpAnyK_only {Q : Act → World → Prop} {i fuel : Nat} {listed : Array Bool} {a : Act} {w : World} (hr : Region.ready md ops listed = [i])
    (h : sOp P ops i (fun a' w' => (late i = false → S w') ∧ wpAnyK P md ops S late Q fuel (listed.setIfInBounds i true) a' w') a w) : wpAnyK P md ops S late Q (fuel + 1) listed a w :=
  by
  unfold wpAnyK
  refine ⟨fun h0 => (by rw [hr] at h0; cases h0), fun j hj => ?_⟩
  rw [hr] at hj
  simp only [List.mem_cons, List.not_mem_nil, or_false] at hj
  subst hj
  exact h

theorem wpAnyK_end {Q : Act → World → Prop} {fuel : Nat} {listed : Array Bool} {a : Act} {w : World} (hr : Region.ready md ops listed = []) (h : Q a w) : wpAnyK P md ops S late Q fuel listed a w := by
  cases fuel with
  | zero => exact ⟨hr, h⟩
  | succ f => exact ⟨fun _ => h, fun j hj => by rw [hr] at hj; cases hj⟩

end

section
variable {P : Program} {T : List (Nat × TI)} {E : List (Nat × Value)} {n : Nat} {w0 : World} {A : List Nat} {L Ls : List Blk}
variable {ops : Array Oper} {Q : Exit → Act → World → Prop} {late : List Nat} {dn : List Nat}

/-- what is known throughout is known now -/
def Has (L : List Blk) : List Blk → Prop
  | [] => True
  | p :: r => p ∈ L ∧ Has L r

theorem Has.mem : ∀ {r : List Blk}, Has L r → ∀ p ∈ r, p ∈ L
  | [], _, p, hp => by simp at hp
  | q :: r, h, p, hp => by
    rcases List.mem_cons.1 hp with rfl | hp
    · exact h.1
    · exact Has.mem h.2 p hp

theorem Inv.has {w : World} (h : Inv w0 A w L) (hn : (ids Ls).Nodup) (hs : Has L Ls) : Inv w0 A w Ls :=
  ⟨h.os, h.tape, h.output, h.size, h.frame, fun p hp => h.own p (hs.mem p hp), hn, fun p hp => h.new p (hs.mem p hp)⟩

def lateB (late : List Nat) (i : Nat) : Bool := late.contains i

def marked (m : Nat) : List Nat → Array Bool
  | [] => Array.replicate m false
  | i :: r => (marked m r).setIfInBounds i true

/-- The region: done are the operations dn (the last first); still known: L; known throughout (but behind the late ones): Ls. -/
def WK (P : Program) (ops : Array Oper) (Q : Exit → Act → World → Prop) (w0 : World) (A : List Nat) (n : Nat) (Ls : List Blk) (late dn : List Nat) (E : List (Nat × Value)) (L : List Blk) : Prop :=
  (ids Ls).Nodup → ∀ a w, Fr n E a → Inv w0 A w L → ∀ fuel, ops.size ≤ fuel + dn.length →
    wpAnyK P .any ops (fun w => Inv w0 A w Ls) (lateB late) (fun a' w' => Q .normal a' w') fuel (marked ops.size dn) a w

def keeps : List Blk → List Nat → Option (List Blk)
  | _, [] => some []
  | L, i :: r => match pick L i with
    | none => none
    | some (p, L1) => match keeps L1 r with
      | none => none
      | some s => some (p :: s)

theorem wk_val {i d : Nat} {op : Op} {ty : TypeId} {pos : String} {aft : Array Edge} {v : Value} (hs : Region.noSelect ops = true) (ho : ops[i]? = some ⟨some d, op, ty, pos, aft, none⟩)
    (hfree : freeK .any ops (lateB late) (marked ops.size dn) i = true) (hb : Nat.blt dn.length ops.size = true) (hL : Has L Ls)
    (hv : Val P w0 A n E Ls op ty v) (hd : Nat.blt d n = true) (h : WK P ops Q w0 A n Ls late (i :: dn) ((d, v) :: E) L) : WK P ops Q w0 A n Ls late dn E L := by
  intro hnd a w hF hI fuel hfuel
  obtain ⟨hr, hf⟩ := freeK_spec ho hfree
  have hb' : dn.length < ops.size := by simpa using hb
  obtain ⟨fuel, rfl⟩ : ∃ f, fuel = f + 1 := ⟨fuel - 1, by omega⟩
  refine wpAnyK_first (v := v) ho (Region.noSelect_spec hs) fuel _ a w hf hr (.inl ⟨by simp [Region.wanted], fun w hw => ?_⟩) (hI.has hnd hL) ?_
  · rw [hv a w hF hw]; exact ⟨rfl, rfl⟩
  · exact h hnd _ w (hF.put hd) hI fuel (by simp only [List.length_cons]; omega)

/-- An operation that turns the world: it is the only one that may come up. -/
theorem wk_chg {i d : Nat} {op : Op} {ty : TypeId} {pos : String} {aft : Array Edge} {S : Value → List Blk → Prop} (ho : ops[i]? = some ⟨some d, op, ty, pos, aft, none⟩)
    (hr : Region.ready .any ops (marked ops.size dn) = [i]) (hb : Nat.blt dn.length ops.size = true)
    (hv : Chg P w0 A n E L op ty S) (hd : Nat.blt d n = true) (hL : lateB late i = true ∨ ∀ v L', S v L' → Has L' Ls)
    (h : ∀ v L', S v L' → WK P ops Q w0 A n Ls late (i :: dn) ((d, v) :: E) L') : WK P ops Q w0 A n Ls late dn E L := by
  intro hnd a w hF hI fuel hfuel
  have hb' : dn.length < ops.size := by simpa using hb
  obtain ⟨fuel, rfl⟩ : ∃ f, fuel = f + 1 := ⟨fuel - 1, by omega⟩
  refine wpAnyK_only hr ?_
  unfold sOp
  simp only [ho]
  rw [if_pos (by simp [Region.wanted])]
  obtain ⟨nx, w', v, L', hrun, hn, hI', hS⟩ := hv a w hF hI (some d) pos aft none
  rw [hrun]
  have hk : (lateB late i = false → Inv w0 A w' Ls) ∧ wpAnyK P .any ops (fun w => Inv w0 A w Ls) (lateB late) (fun a' w' => Q .normal a' w') fuel ((marked ops.size dn).setIfInBounds i true) (a.put (some d) v) w' :=
    ⟨fun hl => by rcases hL with hL | hL; (rw [hl] at hL; cases hL); exact hI'.has hnd (hL v L' hS), h v L' hS hnd _ w' (hF.put hd) hI' fuel (by simp only [List.length_cons]; omega)⟩
  rcases hn with rfl | ⟨rfl, rfl⟩ <;> exact hk

theorem wk_chg0 {i : Nat} {op : Op} {ty : TypeId} {pos : String} {aft : Array Edge} {S : Value → List Blk → Prop} (ho : ops[i]? = some ⟨none, op, ty, pos, aft, none⟩)
    (hr : Region.ready .any ops (marked ops.size dn) = [i]) (hb : Nat.blt dn.length ops.size = true)
    (hv : Chg P w0 A n E L op ty S) (hL : lateB late i = true ∨ ∀ v L', S v L' → Has L' Ls)
    (h : ∀ v L', S v L' → WK P ops Q w0 A n Ls late (i :: dn) E L') : WK P ops Q w0 A n Ls late dn E L := by
  intro hnd a w hF hI fuel hfuel
  have hb' : dn.length < ops.size := by simpa using hb
  obtain ⟨fuel, rfl⟩ : ∃ f, fuel = f + 1 := ⟨fuel - 1, by omega⟩
  refine wpAnyK_only hr ?_
  unfold sOp
  simp only [ho]
  rw [if_pos (by simp [Region.wanted])]
  obtain ⟨nx, w', v, L', hrun, hn, hI', hS⟩ := hv a w hF hI none pos aft none
  rw [hrun]
  have hk : (lateB late i = false → Inv w0 A w' Ls) ∧ wpAnyK P .any ops (fun w => Inv w0 A w Ls) (lateB late) (fun a' w' => Q .normal a' w') fuel ((marked ops.size dn).setIfInBounds i true) a w' :=
    ⟨fun hl => by rcases hL with hL | hL; (rw [hl] at hL; cases hL); exact hI'.has hnd (hL v L' hS), h v L' hS hnd _ w' hF hI' fuel (by simp only [List.length_cons]; omega)⟩
  rcases hn with rfl | ⟨rfl, rfl⟩ <;> exact hk

/-- A call that is the only operation that may come up. -/
theorem wk_call {i d : Nat} {f : Operand} {args : Array Operand} {ts : Array TypeId} {ty : TypeId} {pos : String} {aft : Array Edge} {g : FuncId} {p q : Array Value} {vs al : List Value}
    {S : Value → List Blk → Prop} (hc : ∀ args w, (callFunc g args).run P w = .ok (.enter g args) w) (ho : ops[i]? = some ⟨some d, .call ⟨.value f, args, ts⟩, ty, pos, aft, none⟩)
    (hr : Region.ready .any ops (marked ops.size dn) = [i]) (hb : Nat.blt dn.length ops.size = true)
    (hf : evO E f = some (.func (.func g) p q)) (ha : evArgs E args.toList = some vs) (hn : normO (p.toList ++ (vs ++ q.toList)) = some al)
    (hk : ∀ w, Inv w0 A w L → Calls P g al.toArray w fun e w' => ∃ v L', e = .returned v ∧ Inv w0 A w' L' ∧ S v L')
    (hd : Nat.blt d n = true) (hL : lateB late i = true ∨ ∀ v L', S v L' → Has L' Ls)
    (h : ∀ v L', S v L' → WK P ops Q w0 A n Ls late (i :: dn) ((d, v) :: E) L') : WK P ops Q w0 A n Ls late dn E L := by
  intro hnd a w hF hI fuel hfuel
  have hb' : dn.length < ops.size := by simpa using hb
  obtain ⟨fuel, rfl⟩ : ∃ f, fuel = f + 1 := ⟨fuel - 1, by omega⟩
  refine wpAnyK_only hr ?_
  unfold sOp
  simp only [ho]
  rw [if_pos (by simp [Region.wanted])]
  have hrun : (execOp a.eval ⟨some d, .call ⟨.value f, args, ts⟩, ty, pos, aft, none⟩).run P w = .ok (.enter g al.toArray) w := by
    have : execOp a.eval ⟨some d, .call ⟨.value f, args, ts⟩, ty, pos, aft, none⟩ = callFunc g ((p ++ args.map a.eval) ++ q) := by
      show (resolve a.eval ⟨.value f, args, ts⟩ ty >>= fun d => invoke d.target d.args) = _
      unfold resolve
      simp only [hF.eval hf]
      rfl
    rw [this, evArgs_arr hF ha, hc]
    rw [normO_eq hn]
    congr 2
    apply Array.ext'
    simp
  rw [hrun]
  show Calls P g al.toArray w _
  refine (hk w hI).mono fun e w' ⟨v, L', he, hI', hS⟩ => ⟨v, he, ?_, ?_⟩
  · intro hl
    rcases hL with hL | hL
    · rw [hl] at hL; cases hL
    · exact hI'.has hnd (hL v L' hS)
  · exact h v L' hS hnd _ w' (hF.put hd) hI' fuel (by simp only [List.length_cons]; omega)

theorem wk_end (hr : Region.ready .any ops (marked ops.size dn) = []) (h : WX Q w0 A n .normal E L) : WK P ops Q w0 A n Ls late dn E L := by
  unfold WX at h
  exact fun _ a w hF hI fuel _ => wpAnyK_end hr (h a w hF hI)

theorem wk_pure (hT : TabOk P T) {i d : Nat} {op : Op} {ty : TypeId} {pos : String} {aft : Array Edge} {v : Value} (hs : Region.noSelect ops = true) (ho : ops[i]? = some ⟨some d, op, ty, pos, aft, none⟩)
    (hv : stepV T E op = some v) (hfree : freeK .any ops (lateB late) (marked ops.size dn) i = true) (hb : Nat.blt dn.length ops.size = true) (hL : Has L Ls)
    (hd : Nat.blt d n = true) (h : WK P ops Q w0 A n Ls late (i :: dn) ((d, v) :: E) L) : WK P ops Q w0 A n Ls late dn E L := wk_val hs ho hfree hb hL (stepV_ok hT hv) hd h

theorem wk_load (hT : TabOk P T) {i d : Nat} {t : TypeId} {x : Operand} {b o : Nat} {c : List Value} {t' : TypeId} {fz : Nat × Nat} {ty : TypeId} {v : Value} {pos : String} {aft : Array Edge} (hs : Region.noSelect ops = true)
    (ho : ops[i]? = some ⟨some d, .load t x, ty, pos, aft, none⟩)
    (hx : evO E x = some (.pointer (some ⟨b, o, none⟩))) (hm : (⟨b, c, t', fz⟩ : Blk) ∈ Ls) (hp : partV T t c o = some v) (hfree : freeK .any ops (lateB late) (marked ops.size dn) i = true) (hb : Nat.blt dn.length ops.size = true) (hL : Has L Ls)
    (hd : Nat.blt d n = true) (h : WK P ops Q w0 A n Ls late (i :: dn) ((d, v) :: E) L) : WK P ops Q w0 A n Ls late dn E L := wk_val hs ho hfree hb hL (val_load hT hx hm hp) hd h

end

section
variable {P : Program} {T : List (Nat × TI)} {E : List (Nat × Value)} {n : Nat} {w0 : World} {A : List Nat} {L : List Blk}

theorem TOk.info {t : Nat} {i : TI} (h : TOk P t i) : ∃ x, P.info? t = some x ∧ x.size = i.size ∧ x.bytes = i.bytes ∧ ∀ z, i.zero = some z → ∃ v, x.zero = some v ∧ v.cells = z.toArray := by
  have w : World := default
  obtain ⟨x, hx, hb⟩ := h.bytes w
  have hi : P.info? t = some x := by
    simp only [typeInfo] at hx
    cases hp : P.info? t with
    | none => simp [hp] at hx
    | some y => simp [hp] at hx; rw [hx]
  refine ⟨x, hi, ?_, hb, fun z hz => ?_⟩
  · have := h.size w
    simpa [sizeOf, typeInfo, hi] using this
  · obtain ⟨v, hv, hc⟩ := h.zero z hz w
    refine ⟨v, ?_, hc⟩
    cases hz : x.zero with
    | none => simp [zeroValue, typeInfo, hi, hz] at hv
    | some u => simp [zeroValue, typeInfo, hi, hz] at hv; rw [hv]

/-- A slice of one's own, or nil: its block is the list B; behind its n elements xs lies what nobody knows. -/
def Vec (e size : Nat) (sv : Value) (n : Nat) (xs : List Value) (B : List Blk) : Prop :=
  xs.length = n * size ∧ ((sv = .slice none 0 0 ∧ n = 0 ∧ B = []) ∨
   ∃ g cap r, sv = .slice (some ⟨g, 0, none⟩) n cap ∧ n ≤ cap ∧ cap ≤ maxLen ∧ (xs ++ r).length = cap * size ∧ B = [⟨g, xs ++ r, e, (0, 0)⟩])

theorem Vec.none {e size : Nat} : Vec e size (.slice none 0 0) 0 [] [] := ⟨by simp, .inl ⟨rfl, rfl, rfl⟩⟩

theorem Inv.fresh {w : World} (h : Inv w0 A w L) {B L0 : List Blk} (hp : L.Perm (B ++ L0)) (cs : List Value) (t : TypeId) (k : Nat) :
    Inv w0 A (({ w with drawn := k } : World).alloc (.cells cs.toArray t (0, 0))) (⟨w.heap.size, cs, t, (0, 0)⟩ :: L0) := by
  have h1 := ((h.drew k).alloc cs t)
  refine h1.sub ⟨B, ?_⟩
  refine (hp.cons _).trans ?_
  simp only [List.cons_append]
  exact (List.perm_append_comm).cons _

end

section
variable {P : Program} {T : List (Nat × TI)} {E : List (Nat × Value)} {n : Nat} {w0 : World} {A : List Nat} {L : List Blk}

theorem run_bound {k : IntKind} {j y : Nat} {code : BoundsCode} (h : j ≤ y) (w : World) : (Instr.sliceBound (.int k (j : Int)) y code).run P w = .ok j w := by
  have : (0 : Int) ≤ (j : Int) ∧ (j : Int) ≤ (y : Int) := by omega
  simp [Instr.sliceBound, asIntOf, this]

/-- a slice that is built of parts: new memory -/
theorem chg_buildSlice (hT : TabOk P T) {t e : TypeId} {s1 b1 size by' len : Nat} {z1 : Option (List Value)} {z cs : List Value} {td : TD} {parts : Array (Nat × Operand)} {ps : List (Nat × Value)} {ty : TypeId}
    (hlt : lookT T t = some ⟨.slice e, s1, b1, z1⟩) (hle : lookT T e = some ⟨td, size, by', some z⟩) (hp : evParts E parts.toList = some ps) (hsz : Nat.ble (len * size) 16777216 = true)
    (hf : Instr.fill (fun i => some (i * size, size)) ((Array.range (len * size)).map ((if len * size = 0 then #[] else z.toArray)[· % (if len * size = 0 then #[] else z.toArray).size]!)) ps = some cs.toArray) :
    Chg P w0 A n E L (.buildSlice t len parts) ty (fun v L' => ∃ b, v = .slice (some ⟨b, 0, none⟩) len len ∧ L' = ⟨b, cs, e, (0, 0)⟩ :: L) := by
  intro a w hF hI d pos aft g
  obtain ⟨xt, hxt, hft, hpu⟩ := (hT.at hlt).und w
  simp only [TD.fits] at hft
  subst hft
  refine ⟨.value (.slice (some ⟨w.heap.size, 0, none⟩) len len), _, _, _, ?_, .inl rfl, hI.alloc cs e, w.heap.size, rfl, rfl⟩
  refine (Sem.run_bind _ _ _ _).trans ?_
  show Result.andThen ((Instr.buildSlice t len (parts.map fun (i, x) => (i, a.eval x))).run P w) _ = _
  have e1 : (parts.map fun (i, x) => (i, a.eval x)).toList = ps := by
    have := evParts_eq hF hp
    simpa using this
  obtain ⟨zv, hz, hc⟩ := (hT.at hle).zero z rfl w
  have hsz' : ¬ (len * size > 2 ^ 24) := by have := Nat.le_of_ble_eq_true hsz; omega
  unfold Instr.buildSlice
  rw [runM hxt]
  simp only
  rw [runM ((hT.at hle).size w)]
  simp only [if_neg hsz', e1]
  by_cases h0 : len * size = 0
  · simp only [h0, if_true] at hf ⊢
    simp only [Sem.run_bind, Sem.run_pure, Result.andThen, hf, newRow]
    rfl
  · simp only [h0, if_false] at hf ⊢
    simp only [Sem.run_bind, Sem.run_pure, Result.andThen, hz, hc, hf, newRow]
    rfl

end

section
variable {P : Program} {T : List (Nat × TI)} {E E' : List (Nat × Value)} {n : Nat} {w0 : World} {A : List Nat} {L L' : List Blk} {Q : Exit → Act → World → Prop}

/-- What a round of a loop hands on: some later standing. -/
def Rounds (J : Nat → List (Nat × Value) → List Blk → Prop) (w0 : World) (A : List Nat) (n m : Nat) (a : Act) (w : World) : Prop :=
  ∃ m', m' < m ∧ ∃ E L, J m' E L ∧ Fr n E a ∧ Inv w0 A w L

theorem wc_loop {c : Code} (J : Nat → List (Nat × Value) → List Blk → Prop) (m0 : Nat) (hJ : J m0 E' L') (hE : Agree E E') (hL : ∃ R, L.Perm (L' ++ R))
    (round : ∀ m E L, J m E L → WC P (Exit.then (Rounds J w0 A n m) Q) w0 A n c E L) : WC P Q w0 A n (.loop c) E L := by
  unfold WC at *
  intro a w hF hI
  refine wp_loop_ghost (fun m a w => ∃ E L, J m E L ∧ Fr n E a ∧ Inv w0 A w L) m0 ⟨E', L', hJ, hF.agree hE, hI.sub hL⟩ ?_
  intro m a w ⟨E1, L1, hJ1, hF1, hI1⟩
  exact round m E1 L1 hJ1 a w hF1 hI1

theorem wx_round {J : Nat → List (Nat × Value) → List Blk → Prop} {m : Nat} (m' : Nat) (hlt : m' < m) (hJ : J m' E' L') (hE : Agree E E') (hL : ∃ R, L.Perm (L' ++ R)) :
    WX (Exit.then (Rounds J w0 A n m) Q) w0 A n .normal E L := by
  unfold WX
  intro a w hF hI
  exact ⟨m', hlt, E', L', hJ, hF.agree hE, hI.sub hL⟩

theorem agree_nil : Agree E [] := trivial
theorem agree_cons {t : Nat} {v : Value} (h : lookO E t = some v) (h' : Agree E E') : Agree E ((t, v) :: E') := ⟨h, h'⟩

/-- The cells xs, from ad on, stood in the memory at the beginning, in a block that stays as it was. -/
structure Old (w0 : World) (A : List Nat) (ad : Addr) (xs : List Value) : Prop where
  lt : xs ≠ [] → ad.block < w0.heap.size
  not : ad.block ∉ A
  at_ : ∀ j u, xs[j]? = some u → w0.cell? (ad.add j) = some u

theorem Old.now {ad : Addr} {xs : List Value} (h : Old w0 A ad xs) {w : World} (hI : Inv w0 A w L) : ∀ j u, xs[j]? = some u → w.cell? (ad.add j) = some u := by
  intro j u hu
  have h1 := h.at_ j u hu
  have hlt : ad.block < w0.heap.size := h.lt (by intro h0; subst h0; simp at hu)
  have h2 : w.heap[(ad.add j).block]? = w0.heap[(ad.add j).block]? := by
    have : (ad.add j).block = ad.block := by unfold Addr.add; split <;> rfl
    rw [this]
    exact hI.frame _ hlt h.not
  rw [World.cell?_of_block h2]
  exact h1

end

section
variable {P : Program} {T : List (Nat × TI)} {ops : Array Oper} {Q : Exit → Act → World → Prop} {w0 : World} {A : List Nat} {n : Nat}
variable {E : List (Nat × Value)} {L : List Blk} {rest : List Oper}

/-- A call that reads the blocks pre, hands back one value and turns nothing that is known. -/
abbrev Rd (P : Program) (f : FuncId) (args : List Value) (pre : List Blk) (v : Value) : Prop := Sp P f args pre (fun _ => True) (fun u L' => u = v ∧ L' = pre)

theorem wl_rd {f : Operand} {args : Array Operand} {ts : Array TypeId} {ty : TypeId} {pos : String} {aft : Array Edge} {d : Nat} {g : FuncId} {p q : Array Value} {vs al : List Value}
    {pre : List Blk} {v : Value}
    (hc : ∀ args w, (callFunc g args).run P w = .ok (.enter g args) w)
    (hf : evO E f = some (.func (.func g) p q)) (ha : evArgs E args.toList = some vs) (hn : normO (p.toList ++ (vs ++ q.toList)) = some al)
    (hL : ∃ F, L.Perm (pre ++ F)) (h : Rd P g al pre v)
    (hd : Nat.blt d n = true) (k : WL P ops Q w0 A n rest ((d, v) :: E) L) :
    WL P ops Q w0 A n (⟨some d, .call ⟨.value f, args, ts⟩, ty, pos, aft, none⟩ :: rest) E L := by
  obtain ⟨F, hL⟩ := hL
  refine wl_call (S := fun v' L' => v' = v ∧ L' = L) hc hf ha hn (fun w hI => ?_) hd (fun v' L' ⟨h1, h2⟩ => by subst h1; subst h2; exact k)
  refine (h w ⟨rfl, rfl, rfl, Nat.le_refl _, fun _ _ _ => rfl, fun p hp => (hI.perm hL).own p (List.mem_append_left _ hp), by
      have := (hI.perm hL).nodup
      unfold ids at *
      rw [List.map_append, List.nodup_append] at this
      exact this.1, fun p hp => .inl (List.mem_map_of_mem hp)⟩ trivial).mono ?_
  rintro e w' ⟨u, L', rfl, hI', rfl, rfl⟩
  exact ⟨_, L, rfl, (hI.afterSp hL hI').perm hL.symm, rfl, rfl⟩

theorem wx_rd (hT : TabOk P T) {fn : Func} {u : Value} {pre : List Blk} {rs : List ResultVar} {vs : List Value} {e : Exit} (he : e = .ret ∨ e = .normal) (hr : fn.results = rs.toArray) (h : Res T E L rs vs)
    (hL : ∃ R, L.Perm (pre ++ R)) (hS : resV vs = u) : WX (bodyPost P fn (fun e w' => ∃ v L', e = .returned v ∧ Inv w0 A w' L' ∧ (v = u ∧ L' = pre))) w0 A n e E L :=
  wx_sp hT he hr h hL ⟨hS, rfl⟩
end

section
variable {P : Program} {T : List (Nat × TI)} {ops : Array Oper} {Q : Exit → Act → World → Prop} {w0 : World} {A : List Nat} {n : Nat}
variable {E : List (Nat × Value)} {L : List Blk} {rest : List Oper}

theorem Vec.form {e size : Nat} {sv : Value} {n : Nat} {xs : List Value} {B : List Blk} (h : Vec e size sv n xs B) : ∃ a cap, sv = .slice a n cap := by
  rcases h.2 with ⟨rfl, rfl, _⟩ | ⟨g, cap, r, rfl, _⟩
  · exact ⟨_, _, rfl⟩
  · exact ⟨_, _, rfl⟩

end

section
variable {P : Program} {T : List (Nat × TI)} {ops : Array Oper} {Q : Exit → Act → World → Prop} {w0 : World} {A : List Nat} {n : Nat}
variable {E : List (Nat × Value)} {L : List Blk} {rest : List Oper}

end

attribute [irreducible] WL WC WX WQ WK Pf Sp

/-! ### Opening a law's arguments -/
def maxB : Nat := 140737488351232

/-- What a value's cells are, that can be read as data of type t (slices in the world w). -/
def Rdw (T : List (Nat × TI)) (w : World) : Nat → TypeId → List Value → Prop
  | 0, _, _ => True
  | fuel + 1, t, cs =>
    match lookT T t with
    | none => True
    | some ⟨.bool, _, _, _⟩ => ∃ b, cs = [.bool b]
    | some ⟨.int k, _, _, _⟩ => ∃ n, cs = [.int k n] ∧ (Lit.int k n).wf = true
    | some ⟨.str, _, _, _⟩ => ∃ s, cs = [.string s] ∧ s.size ≤ maxB
    | some ⟨.slice e, _, _, _⟩ =>
      (match lookT T e with
      | none => True
      | some ⟨_, size, bytes, _⟩ => ∃ a len cap, cs = [.slice a len cap] ∧ len ≤ cap ∧ cap * bytes ≤ maxB ∧
          (∀ i, i < len → ∃ b es, a = some b ∧ es.length = size ∧ (∀ j x, es[j]? = some x → w.cell? (b.add (i * size + j)) = some x) ∧ (∀ j, j < size → b.block < w.heap.size) ∧ Rdw T w fuel e es) ∧ (a = none → cap = 0))
    | some ⟨.struct fs, size, _, _⟩ => cs.length = size ∧ ∀ x ∈ fs, Rdw T w fuel x.1 ((cs.drop x.2).take (((lookT T x.1).map (·.size)).getD 0))
    | some ⟨.arr m e, size, _, _⟩ => cs.length = size ∧ ∀ i, i < m → Rdw T w fuel e ((cs.drop (i * ((lookT T e).map (·.size)).getD 0)).take (((lookT T e).map (·.size)).getD 0))
    | some _ => True

structure COk (P : Program) (t : Nat) (i : TI) : Prop where
  cells : P.cellsOf t = i.size
  bytes : P.bytesOf t = i.bytes

def CTabOk (P : Program) (T : List (Nat × TI)) : Prop := ∀ x ∈ T, COk P x.1 x.2

theorem mapM_some {α β : Type} {f : α → Option β} : ∀ {l : List α} {ys : List β}, l.mapM f = some ys → ∀ (i : Nat) (x : α), l[i]? = some x → ∃ y, f x = some y ∧ ys[i]? = some y
  | [], ys, h, i, x, hx => by simp at hx
  | a :: l, ys, h, i, x, hx => by
    rw [List.mapM_cons] at h
    cases ha : f a with
    | none => simp [ha] at h
    | some y =>
      cases hl : l.mapM f with
      | none => simp [ha, hl] at h
      | some zs =>
        simp [ha, hl] at h
        subst h
        cases i with
        | zero => simp at hx; subst hx; exact ⟨y, ha, rfl⟩
        | succ i => simp at hx; obtain ⟨z, h1, h2⟩ := mapM_some hl i x hx; exact ⟨z, h1, by simpa using h2⟩

theorem mapM_length {α β : Type} {f : α → Option β} : ∀ {l : List α} {ys : List β}, l.mapM f = some ys → ys.length = l.length
  | [], ys, h => by simp at h; subst h; rfl
  | a :: l, ys, h => by
    rw [List.mapM_cons] at h
    cases ha : f a with
    | none => simp [ha] at h
    | some y =>
      cases hl : l.mapM f with
      | none => simp [ha, hl] at h
      | some zs => simp [ha, hl] at h; subst h; simp [mapM_length hl]

theorem cells?_spec {w : World} {base : Nat} {a : Addr} {m : Nat} {cs : List Value} (h : w.cells? base a m = some cs) : cs.length = m ∧ ∀ j x, cs[j]? = some x → w.cell? (a.add j) = some x := by
  unfold World.cells? at h
  split at h
  · have hl := mapM_length h
    simp at hl
    refine ⟨hl, fun j x hx => ?_⟩
    have hj : j < m := by
      rcases Nat.lt_or_ge j m with h' | h'
      · exact h'
      · rw [List.getElem?_eq_none (by omega)] at hx; cases hx
    obtain ⟨y, h1, h2⟩ := mapM_some h j j (by simp [hj])
    rw [h2] at hx
    cases hx
    exact h1
  · cases h

theorem addr_add_add (a : Addr) (i j : Nat) : (a.add i).add j = a.add (i + j) := by
  unfold Addr.add
  by_cases hi : i = 0
  · subst hi; simp
  · by_cases hj : j = 0
    · subst hj; simp [hi]
    · simp [hi, hj, Nat.add_assoc]

theorem cell?_lt {w : World} {a : Addr} {v : Value} (h : w.cell? a = some v) : a.block < w.heap.size := by
  unfold World.cell? at h
  cases hh : w.heap[a.block]? with
  | none => simp [hh] at h
  | some o => exact heap_lt hh

theorem add_block (a : Addr) (n : Nat) : (a.add n).block = a.block := by unfold Addr.add; split <;> rfl

section
variable {H : Type} {enc : TypeId × Value → H} {P : Program} {T : List (Nat × TI)}

theorem weightsAll_mem {e : TypeId} {B : Nat} : ∀ {l : List (DataW H)}, (∀ x ∈ DataW.weightsAll P e l, x ≤ B) → ∀ d ∈ l, ∀ x ∈ d.weights P e, x ≤ B
  | [], _, d, hd, _, _ => by simp at hd
  | a :: l, h, d, hd, x, hx => by
    simp only [DataW.weightsAll, List.mem_append] at h
    rcases List.mem_cons.1 hd with rfl | hd
    · exact h x (.inl hx)
    · exact weightsAll_mem (fun x hx => h x (.inr hx)) d hd x hx

theorem weightsEach_mem {B : Nat} : ∀ {ts : List TypeId} {l : List (DataW H)}, (∀ x ∈ DataW.weightsEach P ts l, x ≤ B) → ∀ (i : Nat) (t : TypeId) (d : DataW H), ts[i]? = some t → l[i]? = some d → ∀ x ∈ d.weights P t, x ≤ B
  | [], _, _, i, t, d, ht, _, _, _ => by simp at ht
  | _ :: _, [], _, i, t, d, _, hd, _, _ => by simp at hd
  | u :: ts, a :: l, h, i, t, d, ht, hd, x, hx => by
    simp only [DataW.weightsEach, List.mem_append] at h
    cases i with
    | zero => simp at ht hd; subst ht; subst hd; exact h x (.inl hx)
    | succ i => simp at ht hd; exact weightsEach_mem (fun x hx => h x (.inr hx)) i t d ht hd x hx

theorem rdw_of_trod (hT : TabOk P T) (hC : CTabOk P T) (hF : ∀ t i fs, lookT T t = some i → i.d = .struct fs → ∀ x ∈ fs, ∃ j, lookT T x.1 = some j) {w : World} {spare : Nat → Bool} (hsp : ∀ b, spare b = true) :
    ∀ (m fuel : Nat) (t : TypeId) (cs : List Value) (d : DataW H) (ps : List MemPlace), DataW.trod enc P w 0 spare true fuel t cs = some (d, ps) → (∀ x ∈ d.weights P t, x ≤ maxB) → Rdw T w m t cs
  | 0, _, _, _, _, _, _, _ => trivial
  | _ + 1, 0, _, _, _, _, h, _ => by simp [DataW.trod] at h
  | mm + 1, fuel + 1, t, cs, d, ps, h, hw => by
    unfold Rdw
    split
    · trivial
    · rename_i size bytes z hl
      obtain ⟨x, hx, hf⟩ := (hT.at hl).under
      simp only [TD.fits] at hf
      subst hf
      unfold DataW.trod at h
      rw [hx] at h
      match cs, h with
      | [.bool b], h => exact ⟨b, rfl⟩
    · rename_i k size bytes z hl
      obtain ⟨x, hx, hf⟩ := (hT.at hl).under
      simp only [TD.fits] at hf
      subst hf
      unfold DataW.trod at h
      rw [hx] at h
      match cs, h with
      | [.int k' n], h =>
        simp only at h
        split at h
        · rename_i hc
          obtain ⟨rfl, hwf⟩ := hc
          exact ⟨n, rfl, hwf⟩
        · cases h
    · rename_i size bytes z hl
      obtain ⟨x, hx, hf⟩ := (hT.at hl).under
      simp only [TD.fits] at hf
      subst hf
      unfold DataW.trod at h
      rw [hx] at h
      match cs, h with
      | [.string s], h =>
        simp only at h
        split at h
        · rename_i hc
          simp only [Option.some.injEq, Prod.mk.injEq] at h
          obtain ⟨rfl, _⟩ := h
          have := hw s.data.toList.length (by simp [DataW.weights])
          refine ⟨s, rfl, ?_⟩
          simpa using this
        · cases h
    · rename_i e size bytes z hl
      split
      · trivial
      · rename_i d' esize ebytes z' hle
        obtain ⟨x, hx, hf⟩ := (hT.at hl).under
        simp only [TD.fits] at hf
        subst hf
        have hce := (hC _ (lookT_mem hle)).cells
        have hbe := (hC _ (lookT_mem hle)).bytes
        simp only at hce hbe
        unfold DataW.trod at h
        rw [hx] at h
        match cs, h with
        | [.slice none 0 0], h => exact ⟨none, 0, 0, rfl, Nat.le_refl _, by simp, fun i hi => by omega, fun _ => rfl⟩
        | [.slice (some a) len cap], h =>
          simp only at h
          split at h
          · rename_i hc
            obtain ⟨_, hlc, hcm⟩ := hc
            rw [Option.bind_eq_some_iff] at h
            obtain ⟨elems, he, h⟩ := h
            rw [Option.map_eq_some_iff] at h
            obtain ⟨rs, hr, h⟩ := h
            simp only [Prod.mk.injEq] at h
            obtain ⟨rfl, _⟩ := h
            rw [hsp] at hr
            simp only [if_true] at hr
            have l1 := mapM_length he
            have l2 := mapM_length hr
            simp at l1 l2
            have hwt : (elems.length + rs.length) * P.bytesOf e ≤ maxB := hw _ (by simp [DataW.weights, hx])
            refine ⟨some a, len, cap, rfl, hlc, ?_, fun i hi => ?_, fun h0 => by cases h0⟩
            · rw [hbe, l1, l2] at hwt
              rw [show len + (cap - len) = cap from by omega] at hwt
              exact hwt
            · obtain ⟨y, h1, h2⟩ := mapM_some he i i (by simp [hi])
              rw [Option.bind_eq_some_iff] at h1
              obtain ⟨es, h3, h4⟩ := h1
              rw [hce] at h3
              obtain ⟨h5, h6⟩ := cells?_spec h3
              refine ⟨a, es, rfl, h5, fun j x hx' => ?_, fun j hj => ?_, ?_⟩
              · have := h6 j x hx'
                rw [addr_add_add] at this
                exact this
              · have hj' : j < es.length := by omega
                have := cell?_lt (h6 j _ (List.getElem?_eq_getElem hj'))
                simpa [add_block] using this
              · refine rdw_of_trod hT hC hF hsp mm fuel e es y.1 y.2 h4 ?_
                have hmem : y.1 ∈ elems.map (·.1) := List.mem_map.2 ⟨y, List.mem_of_getElem? h2, rfl⟩
                refine weightsAll_mem (l := elems.map (·.1)) (fun x hx' => hw x ?_) _ hmem
                simp only [DataW.weights, hx, List.mem_cons, List.mem_append]
                exact .inr (.inl hx')
          · cases h
    · rename_i fs size bytes z hl
      obtain ⟨x, hx, hf⟩ := (hT.at hl).under
      obtain ⟨g, rfl, hg⟩ := hf
      have hct := (hC _ (lookT_mem hl)).cells
      simp only at hct
      unfold DataW.trod at h
      rw [hx] at h
      simp only at h
      split at h
      · rename_i hlen
        rw [Option.map_eq_some_iff] at h
        obtain ⟨xs, hxs, h⟩ := h
        simp only [Prod.mk.injEq] at h
        obtain ⟨rfl, _⟩ := h
        refine ⟨by rw [hlen, hct], fun x hxm => ?_⟩
        rw [← hg] at hxm
        obtain ⟨f, hfm, rfl⟩ := List.mem_map.1 hxm
        obtain ⟨i, hi⟩ := List.getElem?_of_mem hfm
        obtain ⟨y, h1, h2⟩ := mapM_some hxs i f hi
        obtain ⟨j, hj⟩ := hF _ _ _ hl rfl (f.type, f.offset) (by rw [← hg]; exact List.mem_map.2 ⟨f, hfm, rfl⟩)
        simp only at hj
        have hcf := (hC _ (lookT_mem hj)).cells
        simp only at hcf
        rw [hcf] at h1
        simp only [hj, Option.map_some, Option.getD_some]
        refine rdw_of_trod hT hC hF hsp mm fuel f.type _ y.1 y.2 h1 ?_
        refine weightsEach_mem (ts := g.toList.map (·.type)) (l := xs.map (·.1)) (fun x hx' => hw x (by simpa [DataW.weights, hx] using hx')) i _ _ (by simp [hi]) (by simp [h2])
      · cases h
    · rename_i m e size bytes z hl
      obtain ⟨x, hx, hf⟩ := (hT.at hl).under
      simp only [TD.fits] at hf
      subst hf
      have hct := (hC _ (lookT_mem hl)).cells
      simp only at hct
      unfold DataW.trod at h
      rw [hx] at h
      simp only at h
      split at h
      · rename_i hlen
        rw [Option.map_eq_some_iff] at h
        obtain ⟨xs, hxs, h⟩ := h
        simp only [Prod.mk.injEq] at h
        obtain ⟨rfl, _⟩ := h
        refine ⟨by rw [hlen, hct], fun i hi => ?_⟩
        obtain ⟨y, h1, h2⟩ := mapM_some hxs i i (by simp [hi])
        cases hle : lookT T e with
        | none => cases mm <;> simp [Rdw, hle]
        | some j =>
          have hce := (hC _ (lookT_mem hle)).cells
          simp only at hce
          rw [hce] at h1
          simp only [Option.map_some, Option.getD_some]
          refine rdw_of_trod hT hC hF hsp mm fuel e _ y.1 y.2 h1 ?_
          have hmem : y.1 ∈ xs.map (·.1) := List.mem_map.2 ⟨y, List.mem_of_getElem? h2, rfl⟩
          exact weightsAll_mem (l := xs.map (·.1)) (fun x hx' => hw x (by simpa [DataW.weights, hx] using hx')) _ hmem
      · cases h
    · trivial


theorem rdw_all (hT : TabOk P T) (hC : CTabOk P T) (hF : ∀ t i fs, lookT T t = some i → i.d = .struct fs → ∀ x ∈ fs, ∃ j, lookT T x.1 = some j) {w : World} {spare : Nat → Bool} (hsp : ∀ b, spare b = true) (m : Nat) :
    ∀ {ts : List TypeId} {vs : List Value} {ds : List (DataW H)} {ps : List MemPlace}, DataW.TrodAll enc P w 0 spare true ts vs ds ps → (∀ x ∈ DataW.weightsEach P ts ds, x ≤ maxB) →
    ∀ (j : Nat) (t : TypeId) (v : Value), ts[j]? = some t → vs[j]? = some v → Rdw T w m t v.cells.toList
  | [], _, _, _, _, _, j, t, v, ht, _ => by simp at ht
  | t :: ts, [], ds, ps, h, _, _, _, _, _, _ => by simp [DataW.TrodAll] at h
  | t :: ts, v :: vs, [], ps, h, _, _, _, _, _, _ => by simp [DataW.TrodAll] at h
  | t :: ts, v :: vs, d :: ds, ps, h, hw, j, u, x, ht, hx => by
    obtain ⟨p, q, ⟨f, h1⟩, h2, _⟩ := h
    simp only [DataW.weightsEach, List.mem_append] at hw
    cases j with
    | zero => simp at ht hx; subst ht; subst hx; exact rdw_of_trod hT hC hF hsp m f _ _ _ _ h1 (fun x hx => hw x (.inl hx))
    | succ j => simp at ht hx; exact rdw_all hT hC hF hsp m h2 (fun x hx => hw x (.inr hx)) j u x ht hx

theorem below_of_inv {W W' : World} (h : Inv W [] W' []) : Below W.heap.size W W' :=
  ⟨h.os, h.tape, h.output, h.size, fun k hk => h.frame k hk (by simp)⟩

theorem trodAll_below (hl : laidOutB P = true) {W W' : World} (hb : Below W.heap.size W W') :
    ∀ {ts : List TypeId} {vs : List Value} {ds : List (DataW H)} {ps : List MemPlace}, (ts.all fun t => P.readableRec t && decide (t < P.types.size)) = true →
    DataW.TrodAll enc P W 0 (fun _ => true) true ts vs ds ps → DataW.TrodAll enc P W' 0 (fun b => decide (b < W.heap.size)) true ts vs ds ps
  | [], [], [], ps, _, h => h
  | [], [], _ :: _, ps, _, h => by simp [DataW.TrodAll] at h
  | [], _ :: _, _, ps, _, h => by simp [DataW.TrodAll] at h
  | t :: ts, [], ds, ps, _, h => by simp [DataW.TrodAll] at h
  | t :: ts, v :: vs, [], ps, _, h => by simp [DataW.TrodAll] at h
  | t :: ts, v :: vs, d :: ds, ps, ha, h => by
    obtain ⟨p, q, h1, h2, h3⟩ := h
    simp only [List.all_cons, Bool.and_eq_true, decide_eq_true_eq] at ha
    refine ⟨p, q, Below.trod hl ha.1.1 ha.1.2 h1 hb ?_, trodAll_below hl hb ha.2 h2, h3⟩
    obtain ⟨m, hm⟩ := h1
    exact DataW.trod_lt m _ _ _ hm

/-- A value is its own one cell, or it is its cells. -/
theorem val_one (hT : TabOk P T) {W : World} {r : Reach} {base : Nat} {t : TypeId} {i : TI} {v : Value} (hl : lookT T t = some i) (ho : i.d ≠ .other) (ha : i.d.agg = false) (h : Value.okWide P W r base t v) : v.cells.toList = [v] := by
  obtain ⟨x, hx, hf⟩ := (hT.at hl).under
  unfold Value.okWide at h
  rw [hx] at h
  cases hd : i.d <;> rw [hd] at hf ha ho <;> simp only [TD.fits] at hf <;> first
    | (simp [TD.agg] at ha; done)
    | exact absurd rfl ho
    | (subst hf
       simp only [Cell.okWide, hx, Cell.ok] at h
       cases v <;> first | rfl | exact h.elim)

theorem val_agg (hT : TabOk P T) {W : World} {r : Reach} {base : Nat} {t : TypeId} {i : TI} {v : Value} (hl : lookT T t = some i) (ha : i.d.agg = true) (h : Value.okWide P W r base t v) : v = .agg v.cells.toList.toArray := by
  obtain ⟨x, hx, hf⟩ := (hT.at hl).under
  unfold Value.okWide at h
  rw [hx] at h
  cases hd : i.d <;> rw [hd] at hf ha <;> simp only [TD.fits] at hf <;> first
    | (simp [TD.agg] at ha; done)
    | (subst hf; obtain ⟨cs, rfl, _⟩ := h; simp [Value.cells])
    | (obtain ⟨f, rfl, _⟩ := hf; obtain ⟨cs, rfl, _⟩ := h; simp [Value.cells])

end

section
variable {T : List (Nat × TI)} {w : World} {m : Nat} {t : TypeId} {cs : List Value} {sz by' : Nat} {z : Option (List Value)}
theorem rd_int {k : IntKind} (h : Rdw T w (m + 1) t cs) (hl : lookT T t = some ⟨.int k, sz, by', z⟩) : ∃ n, cs = [.int k n] ∧ (Lit.int k n).wf = true := by
  unfold Rdw at h; rw [hl] at h; exact h
theorem rd_str (h : Rdw T w (m + 1) t cs) (hl : lookT T t = some ⟨.str, sz, by', z⟩) : ∃ s, cs = [.string s] ∧ s.size ≤ maxB := by
  unfold Rdw at h; rw [hl] at h; exact h
theorem rd_struct {fs : List (TypeId × Nat)} (h : Rdw T w (m + 1) t cs) (hl : lookT T t = some ⟨.struct fs, sz, by', z⟩) :
    cs.length = sz ∧ ∀ x ∈ fs, Rdw T w m x.1 ((cs.drop x.2).take (((lookT T x.1).map (·.size)).getD 0)) := by
  unfold Rdw at h; rw [hl] at h; exact h
theorem rd_arr {k : Nat} {e : TypeId} (h : Rdw T w (m + 1) t cs) (hl : lookT T t = some ⟨.arr k e, sz, by', z⟩) :
    cs.length = sz ∧ ∀ i, i < k → Rdw T w m e ((cs.drop (i * ((lookT T e).map (·.size)).getD 0)).take (((lookT T e).map (·.size)).getD 0)) := by
  unfold Rdw at h; rw [hl] at h; exact h
/-- One cell of a struct or an array. -/
theorem rd_cell {k : IntKind} {c : Value} (h : Rdw T w (m + 1) t [c]) (hl : lookT T t = some ⟨.int k, sz, by', z⟩) : ∃ n, c = .int k n ∧ (Lit.int k n).wf = true := by
  obtain ⟨n, h1, h2⟩ := rd_int h hl
  exact ⟨n, by simpa using h1, h2⟩

theorem wf_i32 {n : Int} (h : (Lit.int .i32 n).wf = true) : -2147483648 ≤ n ∧ n ≤ 2147483647 := by
  simp [Lit.wf, IntKind.min, IntKind.max, IntKind.bits, IntKind.signed] at h; omega
theorem wf_u8 {n : Int} (h : (Lit.int .u8 n).wf = true) : 0 ≤ n ∧ n ≤ 255 := by
  simp [Lit.wf, IntKind.min, IntKind.max, IntKind.bits, IntKind.signed] at h; omega
theorem wf_u16 {n : Int} (h : (Lit.int .u16 n).wf = true) : 0 ≤ n ∧ n ≤ 65535 := by
  simp [Lit.wf, IntKind.min, IntKind.max, IntKind.bits, IntKind.signed] at h; omega
theorem wf_u64 {n : Int} (h : (Lit.int .u64 n).wf = true) : 0 ≤ n ∧ n ≤ 18446744073709551615 := by
  simp [Lit.wf, IntKind.min, IntKind.max, IntKind.bits, IntKind.signed] at h; omega
end

def structsIn (T : List (Nat × TI)) : List (Nat × TI) → Bool
  | [] => true
  | x :: r => (match x.2.d with | .struct fs => allT T fs | _ => true) && structsIn T r

theorem structsIn_eq {T : List (Nat × TI)} : ∀ {R : List (Nat × TI)}, structsIn T R = true → ∀ x ∈ R, ∀ fs, x.2.d = .struct fs → ∀ y ∈ fs, ∃ j, lookT T y.1 = some j
  | [], _, x, hx, _, _, _, _ => by simp at hx
  | z :: r, h, x, hx, fs, hd, y, hy => by
    simp only [structsIn, Bool.and_eq_true] at h
    rcases List.mem_cons.1 hx with rfl | hx
    · have h1 := h.1
      rw [hd] at h1
      exact Option.isSome_iff_exists.1 (allT_eq h1 y hy)
    · exact structsIn_eq h.2 x hx fs hd y hy

theorem closed_of {T : List (Nat × TI)} (h : structsIn T T = true) : ∀ t i fs, lookT T t = some i → i.d = .struct fs → ∀ x ∈ fs, ∃ j, lookT T x.1 = some j :=
  fun t i fs hl hd x hx => structsIn_eq h (t, i) (lookT_mem hl) fs hd x hx


end Go.Proofs.YtkdbpenjkcjimaaGreatDoor.Eng
