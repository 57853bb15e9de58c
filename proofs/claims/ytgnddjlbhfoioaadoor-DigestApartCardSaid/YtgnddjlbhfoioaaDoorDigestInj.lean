/-
  Chapter 10: a step of a digest is one to one, in plain Lean.
-/
import Derived.Test.YtgnddjlbhfoioaaDoorDigestPure
namespace Go.Proofs.YtgnddjlbhfoioaaDoor
open Go Go.Proofs.YtgnddjlbhfoioaaDoor.Eng
set_option linter.unusedSimpArgs false
set_option linter.unusedVariables false
set_option maxHeartbeats 1000000

theorem mul_back {x : Nat} (hx : x < 18446744073709551616) : x * 1099511628211 % 18446744073709551616 * 14886173955864302971 % 18446744073709551616 = x := by
  rw [Nat.mod_mul_mod, Nat.mul_assoc, Nat.mul_mod, show 1099511628211 * 14886173955864302971 % 18446744073709551616 = 1 from by decide, Nat.mul_one, Nat.mod_mod, Nat.mod_eq_of_lt hx]
theorem mul_inj {x y : Nat} (hx : x < 18446744073709551616) (hy : y < 18446744073709551616) (h : x * 1099511628211 % 18446744073709551616 = y * 1099511628211 % 18446744073709551616) : x = y := by
  rw [← mul_back hx, ← mul_back hy, h]
theorem high_aux {u v a b e f : Int} (h1 : -255 ≤ u - v) (h2 : u - v ≤ 255) (h3 : -255 ≤ a - b) (h4 : a - b ≤ 255)
    (ha : 1099511628211 * u = a + 18446744073709551616 * e) (hb : 1099511628211 * v = b + 18446744073709551616 * f) : u = v := by
  obtain ⟨d, rfl⟩ : ∃ d, u = v + d := ⟨u - v, by omega⟩
  obtain ⟨c, rfl⟩ : ∃ c, a = b + c := ⟨a - b, by omega⟩
  obtain ⟨k, rfl⟩ : ∃ k, e = f + k := ⟨e - f, by omega⟩
  have hk : 1099511628211 * d = c + 18446744073709551616 * k := by omega
  have : k = 0 := by omega
  subst this
  omega
theorem high_inj {u v : Nat} (hu : u < 18446744073709551616) (hv : v < 18446744073709551616) (h : u / 256 = v / 256)
    (h2 : u * 1099511628211 % 18446744073709551616 / 256 = v * 1099511628211 % 18446744073709551616 / 256) : u = v := by
  obtain ⟨a, ha⟩ : ∃ a, a = u * 1099511628211 % 18446744073709551616 := ⟨_, rfl⟩
  obtain ⟨b, hb⟩ : ∃ b, b = v * 1099511628211 % 18446744073709551616 := ⟨_, rfl⟩
  obtain ⟨e, he⟩ : ∃ e, e = u * 1099511628211 / 18446744073709551616 := ⟨_, rfl⟩
  obtain ⟨f, hf⟩ : ∃ f, f = v * 1099511628211 / 18446744073709551616 := ⟨_, rfl⟩
  have ea := Nat.div_add_mod (u * 1099511628211) 18446744073709551616
  have eb := Nat.div_add_mod (v * 1099511628211) 18446744073709551616
  rw [← ha, ← he] at ea
  rw [← hb, ← hf] at eb
  rw [← ha, ← hb] at h2
  clear ha hb he hf
  have := high_aux (u := u) (v := v) (a := a) (b := b) (e := e) (f := f) (by omega) (by omega) (by omega) (by omega) (by omega) (by omega)
  omega
theorem xor_cancel {a b c : Nat} (h : a ^^^ c = b ^^^ c) : a = b := by
  have := congrArg (· ^^^ c) h
  simpa [Nat.xor_assoc] using this
theorem xor_cancel_l {a b c : Nat} (h : c ^^^ a = c ^^^ b) : a = b := xor_cancel (by rw [Nat.xor_comm a c, Nat.xor_comm b c]; exact h)
theorem xor_high (a : Nat) {c : Nat} (h : c < 256) : (a ^^^ c) / 256 = a / 256 := by
  have := @Nat.xor_div_two_pow a c 8
  rw [show (2 : Nat) ^ 8 = 256 from rfl, Nat.div_eq_of_lt h, Nat.xor_zero] at this
  exact this
theorem xor_lt {a c : Nat} (ha : a < 18446744073709551616) (hc : c < 256) : a ^^^ c < 18446744073709551616 :=
  @Nat.xor_lt_two_pow a c 64 ha (Nat.lt_of_lt_of_le hc (by decide))

def stN (h c : Nat) : Nat := (h ^^^ c) * 1099511628211 % 18446744073709551616
theorem stN_lt (h c : Nat) : stN h c < 18446744073709551616 := Nat.mod_lt _ (by decide)

theorem xor64 {a b : Nat} (ha : a < 18446744073709551616) (hb : b < 18446744073709551616) : bits .xor .u64 (a : Int) (b : Int) = ((a ^^^ b : Nat) : Int) := by
  have hx : a ^^^ b < 18446744073709551616 := @Nat.xor_lt_two_pow a b 64 ha hb
  have e : (BitVec.ofInt 64 (a : Int) ^^^ BitVec.ofInt 64 (b : Int)).toNat = a ^^^ b := by
    rw [BitVec.ofInt_natCast, BitVec.ofInt_natCast, BitVec.toNat_xor, BitVec.toNat_ofNat, BitVec.toNat_ofNat, Nat.mod_eq_of_lt (show a < 2 ^ 64 from ha), Nat.mod_eq_of_lt (show b < 2 ^ 64 from hb)]
  show IntKind.wrap .u64 (((BitVec.ofInt 64 (a : Int) ^^^ BitVec.ofInt 64 (b : Int)).toNat : Nat) : Int) = _
  rw [e, wr_u64 ⟨by omega, by omega⟩]
theorem xor8 {a b : Nat} (ha : a < 256) (hb : b < 256) : bits .xor .u8 (a : Int) (b : Int) = ((a ^^^ b : Nat) : Int) := by
  have hx : a ^^^ b < 256 := @Nat.xor_lt_two_pow a b 8 ha hb
  have e : (BitVec.ofInt 8 (a : Int) ^^^ BitVec.ofInt 8 (b : Int)).toNat = a ^^^ b := by
    rw [BitVec.ofInt_natCast, BitVec.ofInt_natCast, BitVec.toNat_xor, BitVec.toNat_ofNat, BitVec.toNat_ofNat, Nat.mod_eq_of_lt (show a < 2 ^ 8 from ha), Nat.mod_eq_of_lt (show b < 2 ^ 8 from hb)]
  show IntKind.wrap .u8 (((BitVec.ofInt 8 (a : Int) ^^^ BitVec.ofInt 8 (b : Int)).toNat : Nat) : Int) = _
  rw [e, wr_u8 ⟨by omega, by omega⟩]

theorem stp_N {h c : Nat} (hh : h < 18446744073709551616) (hc : c < 256) : stp (h : Int) (c : Int) = ((stN h c : Nat) : Int) := by
  unfold stp stN
  rw [wr_u64 (x := (c : Int)) ⟨by omega, by omega⟩, xor64 hh (by omega)]
  generalize h ^^^ c = z
  simp only [IntKind.wrap, IntKind.bits, IntKind.signed]
  simp

theorem stN_l {h h' c : Nat} (hh : h < 18446744073709551616) (hh' : h' < 18446744073709551616) (hc : c < 256) (e : stN h c = stN h' c) : h = h' :=
  xor_cancel (mul_inj (xor_lt hh hc) (xor_lt hh' hc) e)
theorem stN_r {h c c' : Nat} (hh : h < 18446744073709551616) (hc : c < 256) (hc' : c' < 256) (e : stN h c = stN h c') : c = c' :=
  xor_cancel_l (mul_inj (xor_lt hh hc) (xor_lt hh hc') e)
theorem stN_2 {h a b a' b' : Nat} (hh : h < 18446744073709551616) (ha : a < 256) (hb : b < 256) (ha' : a' < 256) (hb' : b' < 256) (e : stN (stN h a) b = stN (stN h a') b') : a = a' ∧ b = b' := by
  have e1 : stN h a ^^^ b = stN h a' ^^^ b' := mul_inj (xor_lt (stN_lt _ _) hb) (xor_lt (stN_lt _ _) hb') e
  have e2 : stN h a / 256 = stN h a' / 256 := by rw [← xor_high (stN h a) hb, ← xor_high (stN h a') hb', e1]
  have e3 : h ^^^ a = h ^^^ a' := high_inj (xor_lt hh ha) (xor_lt hh ha') (by rw [xor_high h ha, xor_high h ha']) e2
  obtain rfl := xor_cancel_l e3
  exact ⟨rfl, xor_cancel_l e1⟩

/-! ### The same of whole numbers -/
def R64 (h : Int) : Prop := 0 ≤ h ∧ h ≤ 18446744073709551615
def R8 (c : Int) : Prop := 0 ≤ c ∧ c ≤ 255
theorem R64.nat {h : Int} (r : R64 h) : ∃ k : Nat, h = (k : Int) ∧ k < 18446744073709551616 := ⟨h.toNat, by have := r.1; omega, by have := r.2; omega⟩
theorem R8.nat {h : Int} (r : R8 h) : ∃ k : Nat, h = (k : Int) ∧ k < 256 := ⟨h.toNat, by have := r.1; omega, by have := r.2; omega⟩
theorem stp_R (h c : Int) : R64 (stp h c) := by
  unfold stp
  generalize bits .xor .u64 h (IntKind.wrap .u64 c) * 1099511628211 = z
  unfold R64 IntKind.wrap
  simp [IntKind.bits, IntKind.signed]; omega
theorem stp_l {h h' c : Int} (r : R64 h) (r' : R64 h') (rc : R8 c) (e : stp h c = stp h' c) : h = h' := by
  obtain ⟨k, rfl, hk⟩ := r.nat
  obtain ⟨k', rfl, hk'⟩ := r'.nat
  obtain ⟨q, rfl, hq⟩ := rc.nat
  rw [stp_N hk hq, stp_N hk' hq] at e
  rw [stN_l hk hk' hq (by omega)]
theorem stp_r {h c c' : Int} (r : R64 h) (rc : R8 c) (rc' : R8 c') (e : stp h c = stp h c') : c = c' := by
  obtain ⟨k, rfl, hk⟩ := r.nat
  obtain ⟨q, rfl, hq⟩ := rc.nat
  obtain ⟨q', rfl, hq'⟩ := rc'.nat
  rw [stp_N hk hq, stp_N hk hq'] at e
  rw [stN_r hk hq hq' (by omega)]
theorem mixv_R (h : Int) (p : Int × Int) : R64 (mixv h p) := stp_R _ _
theorem mixv_l {h h' : Int} {p : Int × Int} (r : R64 h) (r' : R64 h') (rp : R8 p.1 ∧ R8 p.2) (e : mixv h p = mixv h' p) : h = h' :=
  stp_l r r' rp.1 (stp_l (stp_R _ _) (stp_R _ _) rp.2 e)
theorem mixv_r {h : Int} {p p' : Int × Int} (r : R64 h) (rp : R8 p.1 ∧ R8 p.2) (rp' : R8 p'.1 ∧ R8 p'.2) (e : mixv h p = mixv h p') : p = p' := by
  obtain ⟨p1, p2⟩ := p
  obtain ⟨q1, q2⟩ := p'
  obtain ⟨k, rfl, hk⟩ := r.nat
  obtain ⟨a, ha, ha2⟩ := rp.1.nat
  obtain ⟨b, hb, hb2⟩ := rp.2.nat
  obtain ⟨c, hc, hc2⟩ := rp'.1.nat
  obtain ⟨d, hd, hd2⟩ := rp'.2.nat
  simp only at ha hb hc hd
  subst ha; subst hb; subst hc; subst hd
  unfold mixv at e
  simp only at e
  rw [stp_N hk ha2, stp_N hk hc2, stp_N (stN_lt _ _) hb2, stp_N (stN_lt _ _) hd2] at e
  obtain ⟨rfl, rfl⟩ := stN_2 hk ha2 hb2 hc2 hd2 (by omega)
  rfl

theorem fold_R {α : Type} {f : Int → α → Int} (hf : ∀ h x, R64 (f h x)) : ∀ (l : List α) (h : Int), R64 h → R64 (l.foldl f h)
  | [], h, r => r
  | x :: l, h, r => fold_R hf l _ (hf h x)
theorem fold_l {α : Type} {f : Int → α → Int} {ok : α → Prop} (hf : ∀ h x, R64 (f h x)) (inj : ∀ h h' x, R64 h → R64 h' → ok x → f h x = f h' x → h = h') :
    ∀ (l : List α) (h h' : Int), (∀ x ∈ l, ok x) → R64 h → R64 h' → l.foldl f h = l.foldl f h' → h = h'
  | [], h, h', _, _, _, e => e
  | x :: l, h, h', ho, r, r', e => inj h h' x r r' (ho x (by simp)) (fold_l hf inj l _ _ (fun y hy => ho y (by simp [hy])) (hf h x) (hf h' x) e)
theorem fold_set {α : Type} {f : Int → α → Int} {ok : α → Prop} (hf : ∀ h x, R64 (f h x)) (inj : ∀ h h' x, R64 h → R64 h' → ok x → f h x = f h' x → h = h') (injr : ∀ h x x', R64 h → ok x → ok x' → f h x = f h x' → x = x')
    {l : List α} {k : Nat} {x y : α} (hk : l[k]? = some x) {h : Int} (ho : ∀ x ∈ l, ok x) (hy : ok y) (r : R64 h) (e : (l.set k y).foldl f h = l.foldl f h) : y = x := by
  obtain ⟨hlt, rfl⟩ := List.getElem?_eq_some_iff.1 hk
  have e1 : l.set k y = l.take k ++ y :: l.drop (k + 1) := by rw [List.set_eq_take_append_cons_drop, if_pos hlt]
  have e2 : l = l.take k ++ l[k] :: l.drop (k + 1) := by rw [← List.drop_eq_getElem_cons hlt, List.take_append_drop]
  have e3 : l.foldl f h = (l.take k ++ l[k] :: l.drop (k + 1)).foldl f h := by rw [← e2]
  rw [e3, e1, List.foldl_append, List.foldl_append, List.foldl_cons, List.foldl_cons] at e
  have hg := fold_R hf (l.take k) h r
  exact injr _ _ _ hg hy (ho _ (List.getElem_mem hlt)) (fold_l hf inj _ _ _ (fun z hz => ho z (List.mem_of_mem_drop hz)) (hf _ _) (hf _ _) e)

end Go.Proofs.YtgnddjlbhfoioaaDoor
