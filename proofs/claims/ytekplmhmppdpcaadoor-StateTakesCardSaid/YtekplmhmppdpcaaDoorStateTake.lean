/-
  Chapter 08: reading a state, in plain Lean.
-/
import Derived.Test.YtekplmhmppdpcaaDoorStatePure
import Derived.Test.YtekplmhmppdpcaaDoorCodecBackPure
namespace Go.Proofs.YtekplmhmppdpcaaDoor
open Go Go.Proofs.YtekplmhmppdpcaaDoor.Eng
set_option linter.unusedSimpArgs false
set_option linter.unusedVariables false
set_option maxHeartbeats 1000000

variable {F : Nat}

/-- Numbers of so many bytes each, one behind the other. -/
def rdW (S : List UInt8) : List Nat → Nat → Int → Nat × Int × List Nat
  | [], a, e => (a, e, [])
  | k :: ks, a, e => ((rdW S ks (numv S a e k).1 (numv S a e k).2.1).1, (rdW S ks (numv S a e k).1 (numv S a e k).2.1).2.1, (numv S a e k).2.2 :: (rdW S ks (numv S a e k).1 (numv S a e k).2.1).2.2)
def encW : List Nat → List Nat → List Nat
  | k :: ks, n :: ns => le k n ++ encW ks ns
  | _, _ => []
def sumW : List Nat → Nat
  | [] => 0
  | k :: ks => k + sumW ks
def fitW : List Nat → List Nat → Prop
  | [], [] => True
  | k :: ks, n :: ns => n < 256 ^ k ∧ fitW ks ns
  | _, _ => False

theorem encW_length : ∀ {ks ns : List Nat}, fitW ks ns → (encW ks ns).length = sumW ks
  | [], [], _ => rfl
  | k :: ks, n :: ns, h => by simp [encW, sumW, le_length, encW_length h.2]
theorem rdW_le {S : List UInt8} : ∀ {ks : List Nat} {a : Nat} {e : Int}, a ≤ S.length → (rdW S ks a e).1 ≤ S.length
  | [], a, e, h => h
  | k :: ks, a, e, h => rdW_le (ks := ks) (numv_le h)
theorem rdW_fit {S : List UInt8} : ∀ {ks : List Nat} {a : Nat} {e : Int}, (∀ k ∈ ks, k ≤ 8) → fitW ks (rdW S ks a e).2.2
  | [], a, e, h => trivial
  | k :: ks, a, e, h => ⟨numv_lt (h k (by simp)), rdW_fit fun j hj => h j (by simp [hj])⟩
theorem rdW_err {S : List UInt8} : ∀ {ks : List Nat} {a : Nat} {e : Int}, e ≠ 0 → (rdW S ks a e).1 = a ∧ (rdW S ks a e).2.1 = e
  | [], a, e, h => ⟨rfl, rfl⟩
  | k :: ks, a, e, h => by
    have hn := numv_err (S := S) (a := a) (k := k) h
    have ih := rdW_err (S := S) (ks := ks) (a := a) h
    simp only [rdW, hn]
    exact ih
theorem rdW_back {S : List UInt8} : ∀ {ks ns : List Nat} {a : Nat} {r : List UInt8}, fitW ks ns → a ≤ S.length → S.drop a = bt (encW ks ns) ++ r → rdW S ks a 0 = (a + sumW ks, 0, ns)
  | [], [], a, r, h, ha, hd => rfl
  | k :: ks, n :: ns, a, r, h, ha, hd => by
    simp only [encW, bt_append, List.append_assoc] at hd
    have hn := numv_back ha hd h.1
    have hl : k ≤ S.length - a := by
      have := congrArg List.length hd
      rw [List.length_drop, List.length_append, bt_length, le_length] at this; omega
    have hd2 : S.drop (a + k) = bt (encW ks ns) ++ r := by
      rw [← List.drop_drop, hd, List.drop_left' (by rw [bt_length, le_length])]
    have ih := rdW_back h.2 (by omega) hd2
    simp only [rdW, hn, ih, sumW, Nat.add_assoc]
theorem rdW_torn {S : List UInt8} : ∀ {ks ns : List Nat} {a t : Nat}, fitW ks ns → a ≤ S.length → S.drop a = (bt (encW ks ns)).take t → t < sumW ks → (rdW S ks a 0).2.1 = 10
  | [], [], a, t, h, ha, hd, ht => by simp [sumW] at ht
  | k :: ks, n :: ns, a, t, h, ha, hd, ht => by
    simp only [encW, bt_append] at hd
    have hbl : (bt (le k n)).length = k := by rw [bt_length, le_length]
    by_cases htk : t < k
    · rw [List.take_append_of_le_length (by omega)] at hd
      have hl : S.length - a = t := by
        have := congrArg List.length hd
        rw [List.length_drop, List.length_take, hbl] at this; omega
      simp only [rdW, numv_torn (show S.length < a + k by omega)]
      exact (rdW_err (by decide)).2
    · rw [List.take_append, hbl, List.take_of_length_le (by omega)] at hd
      have hn := numv_back ha hd h.1
      have hl : k ≤ S.length - a := by
        have := congrArg List.length hd
        rw [List.length_drop, List.length_append, hbl] at this; omega
      have hd2 : S.drop (a + k) = (bt (encW ks ns)).take (t - k) := by
        rw [← List.drop_drop, hd, List.drop_left' hbl]
      have ih := rdW_torn h.2 (by omega) hd2 (by simp only [sumW] at ht; omega)
      simp only [rdW, hn]
      exact ih
theorem rdW_one {S : List UInt8} : ∀ {ks : List Nat} {a : Nat} {e : Int}, a ≤ S.length → (rdW S ks a e).2.1 = 0 → e = 0 ∧ (rdW S ks a e).1 = a + sumW ks ∧ a + sumW ks ≤ S.length ∧ bt (encW ks (rdW S ks a e).2.2) = (S.drop a).take (sumW ks)
  | [], a, e, ha, h => ⟨h, rfl, by simpa [sumW] using ha, by simp [encW, bt_nil, sumW]⟩
  | k :: ks, a, e, ha, h => by
    simp only [rdW] at h
    obtain ⟨h1, h2, h3, h4⟩ := rdW_one (ks := ks) (numv_le ha) h
    obtain ⟨n1, n2, n3, n4⟩ := numv_one h1
    refine ⟨n1, ?_, ?_, ?_⟩
    · simp only [rdW, sumW]; rw [h2, n2, Nat.add_assoc]
    · simp only [sumW]; omega
    · simp only [rdW, encW, bt_append, sumW]
      rw [n4, h4, n2, List.take_add, List.drop_drop]

def plW : List Nat := [4, 4, 4, 4, 1, 1, 1]
def shW : List Nat := [4, 4, 4, 4, 1, 1]
def plOf : List Nat → T_api_Player
  | [a, b, c, d, h, k, f] => ⟨IntKind.wrap .i32 (a : Int), IntKind.wrap .i32 (b : Int), IntKind.wrap .i32 (c : Int), IntKind.wrap .i32 (d : Int), (h : Int), (k : Int), (f : Int)⟩
  | _ => ⟨0, 0, 0, 0, 0, 0, 0⟩
def shOf : List Nat → T_api_Shot
  | [a, b, c, d, o, l] => ⟨IntKind.wrap .i32 (a : Int), IntKind.wrap .i32 (b : Int), IntKind.wrap .i32 (c : Int), IntKind.wrap .i32 (d : Int), (o : Int), (l : Int)⟩
  | _ => ⟨0, 0, 0, 0, 0, 0⟩
def plV (p : T_api_Player) : List Nat := [u32 p.X, u32 p.Y, u32 p.VX, u32 p.VY, p.Health.toNat, p.Cool.toNat, p.Face.toNat]
def shV (x : T_api_Shot) : List Nat := [u32 x.X, u32 x.Y, u32 x.VX, u32 x.VY, x.Owner.toNat, x.Life.toNat]

theorem i32_u32 {x : Int} (h : -2147483648 ≤ x ∧ x ≤ 2147483647) : IntKind.wrap .i32 ((u32 x : Nat) : Int) = x := by
  rw [← u32_wrap]
  simp only [IntKind.wrap, IntKind.bits, IntKind.signed]; simp; split <;> omega
theorem u32_i32 {n : Nat} (h : n < 4294967296) : u32 (IntKind.wrap .i32 (n : Int)) = n := by
  unfold u32
  rw [wr_i32m, Nat.mod_eq_of_lt h]; rfl
theorem wr_i32_range (x : Int) : -2147483648 ≤ IntKind.wrap .i32 x ∧ IntKind.wrap .i32 x ≤ 2147483647 := by
  simp only [IntKind.wrap, IntKind.bits, IntKind.signed]; simp; split <;> omega

theorem plOf_V {p : T_api_Player} (h : PlOk p) : plOf (plV p) = p := by
  have h1 := h.Health.1
  have h2 := h.Cool.1
  have h3 := h.Face.1
  simp only [plV, plOf, i32_u32 h.X, i32_u32 h.Y, i32_u32 h.VX, i32_u32 h.VY, Int.toNat_of_nonneg h1, Int.toNat_of_nonneg h2, Int.toNat_of_nonneg h3]
theorem shOf_V {x : T_api_Shot} (h : ShOk x) : shOf (shV x) = x := by
  have h1 := h.Owner.1
  have h2 := h.Life.1
  simp only [shV, shOf, i32_u32 h.X, i32_u32 h.Y, i32_u32 h.VX, i32_u32 h.VY, Int.toNat_of_nonneg h1, Int.toNat_of_nonneg h2]
theorem plV_fit {p : T_api_Player} (h : PlOk p) : fitW plW (plV p) := by
  have h1 := h.Health
  have h2 := h.Cool
  have h3 := h.Face
  exact ⟨u32_lt _, u32_lt _, u32_lt _, u32_lt _, by omega, by omega, by omega, trivial⟩
theorem shV_fit {x : T_api_Shot} (h : ShOk x) : fitW shW (shV x) := by
  have h1 := h.Owner
  have h2 := h.Life
  exact ⟨u32_lt _, u32_lt _, u32_lt _, u32_lt _, by omega, by omega, trivial⟩
theorem le1i {x : Int} (h : 0 ≤ x ∧ x ≤ 255) : iL (le 1 x.toNat) = [x] := by
  rw [le1 (by omega), Int.toNat_of_nonneg h.1]
theorem plB_V {p : T_api_Player} (h : PlOk p) : toB (plB p) = bt (encW plW (plV p)) := by
  simp only [plW, plV, encW, List.append_nil, bt, iL_append, le1i h.Health, le1i h.Cool, le1i h.Face]
  rfl
theorem shB_V {x : T_api_Shot} (h : ShOk x) : toB (shB x) = bt (encW shW (shV x)) := by
  simp only [shW, shV, encW, List.append_nil, bt, iL_append, le1i h.Owner, le1i h.Life]
  rfl
theorem plOf_ok {v : List Nat} (h : fitW plW v) : PlOk (plOf v) ∧ plV (plOf v) = v := by
  match v, h with
  | [a, b, c, d, x, y, z], ⟨h1, h2, h3, h4, h5, h6, h7, _⟩ =>
    exact ⟨⟨wr_i32_range _, wr_i32_range _, wr_i32_range _, wr_i32_range _, by simp only [plOf]; omega, by simp only [plOf]; omega, by simp only [plOf]; omega⟩, by
      simp only [plV, plOf, u32_i32 h1, u32_i32 h2, u32_i32 h3, u32_i32 h4, Int.toNat_natCast]⟩
theorem shOf_ok {v : List Nat} (h : fitW shW v) : ShOk (shOf v) ∧ shV (shOf v) = v := by
  match v, h with
  | [a, b, c, d, x, y], ⟨h1, h2, h3, h4, h5, h6, _⟩ =>
    exact ⟨⟨wr_i32_range _, wr_i32_range _, wr_i32_range _, wr_i32_range _, by simp only [shOf]; omega, by simp only [shOf]; omega⟩, by
      simp only [shV, shOf, u32_i32 h1, u32_i32 h2, u32_i32 h3, u32_i32 h4, Int.toNat_natCast]⟩
theorem plW8 : ∀ k ∈ plW, k ≤ 8 := by decide
theorem shW8 : ∀ k ∈ shW, k ≤ 8 := by decide

/-- So many shots. -/
def shotsR (S : List UInt8) : Nat → Nat → Int → Nat × Int × List T_api_Shot
  | 0, a, e => (a, e, [])
  | n + 1, a, e => ((shotsR S n (rdW S shW a e).1 (rdW S shW a e).2.1).1, (shotsR S n (rdW S shW a e).1 (rdW S shW a e).2.1).2.1, shOf (rdW S shW a e).2.2 :: (shotsR S n (rdW S shW a e).1 (rdW S shW a e).2.1).2.2)
theorem shotsR_le {S : List UInt8} : ∀ {n a : Nat} {e : Int}, a ≤ S.length → (shotsR S n a e).1 ≤ S.length
  | 0, a, e, h => h
  | n + 1, a, e, h => shotsR_le (n := n) (rdW_le h)
theorem shotsR_err {S : List UInt8} : ∀ {n a : Nat} {e : Int}, e ≠ 0 → (shotsR S n a e).1 = a ∧ (shotsR S n a e).2.1 = e
  | 0, a, e, h => ⟨rfl, rfl⟩
  | n + 1, a, e, h => by
    obtain ⟨h1, h2⟩ := rdW_err (S := S) (ks := shW) (a := a) h
    have ih := shotsR_err (S := S) (n := n) (a := a) h
    simp only [shotsR, h1, h2]
    exact ih
theorem shotsR_len {S : List UInt8} : ∀ {n a : Nat} {e : Int}, (shotsR S n a e).2.2.length = n
  | 0, a, e => rfl
  | n + 1, a, e => by simp only [shotsR, List.length_cons, shotsR_len]
theorem shotsR_ok {S : List UInt8} : ∀ {n a : Nat} {e : Int}, ∀ x ∈ (shotsR S n a e).2.2, ShOk x
  | 0, a, e, x, h => by simp [shotsR] at h
  | n + 1, a, e, x, h => by
    simp only [shotsR, List.mem_cons] at h
    rcases h with rfl | h
    · exact (shOf_ok (rdW_fit shW8)).1
    · exact shotsR_ok x h
theorem shotsR_back {S : List UInt8} : ∀ {l : List T_api_Shot} {a : Nat} {r : List UInt8}, (∀ x ∈ l, ShOk x) → a ≤ S.length → S.drop a = toB (shsB l) ++ r → shotsR S l.length a 0 = (a + 18 * l.length, 0, l)
  | [], a, r, h, ha, hd => rfl
  | x :: l, a, r, h, ha, hd => by
    rw [shsB_cons, toB_append, shB_V (h x (by simp)), List.append_assoc] at hd
    have hb := rdW_back (shV_fit (h x (by simp))) ha hd
    have hs : sumW shW = 18 := rfl
    rw [hs] at hb
    have hl : 18 ≤ S.length - a := by
      have := congrArg List.length hd
      rw [List.length_drop, List.length_append, bt_length, encW_length (shV_fit (h x (by simp))), hs] at this; omega
    have hd2 : S.drop (a + 18) = toB (shsB l) ++ r := by
      rw [← List.drop_drop, hd, List.drop_left' (by rw [bt_length, encW_length (shV_fit (h x (by simp)))]; rfl)]
    have ih := shotsR_back (fun y hy => h y (by simp [hy])) (show a + 18 ≤ S.length by omega) hd2
    simp only [List.length_cons, shotsR, hb, ih, shOf_V (h x (by simp))]
    congr 1; omega
theorem shotsR_torn {S : List UInt8} : ∀ {l : List T_api_Shot} {a t : Nat}, (∀ x ∈ l, ShOk x) → a ≤ S.length → S.drop a = (toB (shsB l)).take t → t < 18 * l.length → (shotsR S l.length a 0).2.1 = 10
  | [], a, t, h, ha, hd, ht => by simp at ht
  | x :: l, a, t, h, ha, hd, ht => by
    rw [shsB_cons, toB_append, shB_V (h x (by simp))] at hd
    have hs : sumW shW = 18 := rfl
    have hbl : (bt (encW shW (shV x))).length = 18 := by rw [bt_length, encW_length (shV_fit (h x (by simp)))]; rfl
    by_cases htl : t < 18
    · rw [List.take_append_of_le_length (by omega)] at hd
      have hq := rdW_torn (shV_fit (h x (by simp))) ha hd (by omega)
      simp only [List.length_cons, shotsR, hq]
      exact (shotsR_err (by decide)).2
    · rw [List.take_append, hbl, List.take_of_length_le (by omega)] at hd
      have hb := rdW_back (shV_fit (h x (by simp))) ha hd
      rw [hs] at hb
      have hl : 18 ≤ S.length - a := by
        have := congrArg List.length hd
        rw [List.length_drop, List.length_append, hbl] at this; omega
      have hd2 : S.drop (a + 18) = (toB (shsB l)).take (t - 18) := by
        rw [← List.drop_drop, hd, List.drop_left' hbl]
      have ih := shotsR_torn (fun y hy => h y (by simp [hy])) (show a + 18 ≤ S.length by omega) hd2 (by simp only [List.length_cons] at ht; omega)
      simp only [List.length_cons, shotsR, hb]
      exact ih
theorem shotsR_one {S : List UInt8} : ∀ {n a : Nat} {e : Int}, a ≤ S.length → (shotsR S n a e).2.1 = 0 → e = 0 ∧ (shotsR S n a e).1 = a + 18 * n ∧ a + 18 * n ≤ S.length ∧ toB (shsB (shotsR S n a e).2.2) = (S.drop a).take (18 * n)
  | 0, a, e, ha, h => ⟨h, rfl, by omega, by simp [shotsR, shsB, toB]⟩
  | n + 1, a, e, ha, h => by
    simp only [shotsR] at h
    obtain ⟨h1, h2, h3, h4⟩ := shotsR_one (n := n) (rdW_le ha) h
    obtain ⟨n1, n2, n3, n4⟩ := rdW_one ha h1
    have hs : sumW shW = 18 := rfl
    rw [hs] at n2 n3 n4
    have hf := shOf_ok (rdW_fit (S := S) (a := a) (e := e) shW8)
    refine ⟨n1, ?_, by omega, ?_⟩
    · simp only [shotsR]; rw [h2, n2]; omega
    · simp only [shotsR, shsB_cons, toB_append]
      rw [shB_V hf.1, hf.2, n4, h4, n2, show 18 * (n + 1) = 18 + 18 * n by omega, List.take_add, List.drop_drop]

def zeroS : T_api_State := ⟨0, 0, (⟨0, 0, 0, 0, 0, 0, 0⟩, ⟨0, 0, 0, 0, 0, 0, 0⟩), [], (0, 0)⟩

/-- What is taken off a text. -/
def tkF (S : List UInt8) : Nat × Int × Nat := numv S 0 0 8
def tkD (S : List UInt8) : Nat × Int × Nat := numv S (tkF S).1 (tkF S).2.1 8
def tkP (S : List UInt8) : Nat × Int × List Nat := rdW S plW (tkD S).1 (tkD S).2.1
def tkQ (S : List UInt8) : Nat × Int × List Nat := rdW S plW (tkP S).1 (tkP S).2.1
def tkN (S : List UInt8) : Nat × Int × Nat := readv S (tkQ S).1 (tkQ S).2.1
def tkS (S : List UInt8) : Nat × Int × List T_api_Shot := shotsR S (tkN S).2.2 (tkN S).1 (tkN S).2.1
def tkA (S : List UInt8) : Nat × Int × Nat := numv S (tkS S).1 (tkS S).2.1 2
def tkB (S : List UInt8) : Nat × Int × Nat := numv S (tkA S).1 (tkA S).2.1 2
def tkSt (S : List UInt8) : T_api_State := ⟨((tkF S).2.2 : Int), ((tkD S).2.2 : Int), (plOf (tkP S).2.2, plOf (tkQ S).2.2), (tkS S).2.2, (((tkA S).2.2 : Int), ((tkB S).2.2 : Int))⟩
def takev (S : List UInt8) : T_api_State × Int :=
  if 8 < (tkN S).2.2 then (zeroS, 4)
  else if (tkB S).2.1 ≠ 0 then (zeroS, (tkB S).2.1)
  else if S.drop (tkB S).1 ≠ [] ∨ stGood (tkSt S) = false then (zeroS, 4)
  else (tkSt S, 0)

theorem tkF_le (S : List UInt8) : (tkF S).1 ≤ S.length := numv_le (by omega)
theorem tkD_le (S : List UInt8) : (tkD S).1 ≤ S.length := numv_le (tkF_le S)
theorem tkP_le (S : List UInt8) : (tkP S).1 ≤ S.length := rdW_le (tkD_le S)
theorem tkQ_le (S : List UInt8) : (tkQ S).1 ≤ S.length := rdW_le (tkP_le S)
theorem tkN_le (S : List UInt8) : (tkN S).1 ≤ S.length := readv_le (tkQ_le S)
theorem tkS_le (S : List UInt8) : (tkS S).1 ≤ S.length := shotsR_le (tkN_le S)
theorem tkA_le (S : List UInt8) : (tkA S).1 ≤ S.length := numv_le (tkS_le S)
theorem tkB_le (S : List UInt8) : (tkB S).1 ≤ S.length := numv_le (tkA_le S)

theorem tkSt_ok (S : List UInt8) : StOk (tkSt S) := by
  have f1 : (tkF S).2.2 < 256 ^ 8 := numv_lt (by omega)
  have f2 : (tkD S).2.2 < 256 ^ 8 := numv_lt (by omega)
  have f3 : (tkA S).2.2 < 256 ^ 2 := numv_lt (by omega)
  have f4 : (tkB S).2.2 < 256 ^ 2 := numv_lt (by omega)
  have h8 : (256 : Nat) ^ 8 = 18446744073709551616 := by decide
  exact ⟨by simp only [tkSt]; omega, by simp only [tkSt]; omega, (plOf_ok (rdW_fit plW8)).1, (plOf_ok (rdW_fit plW8)).1, shotsR_ok, by simp only [tkSt]; omega, by simp only [tkSt]; omega⟩

theorem takev_few (S : List UInt8) : (takev S).1.Shots.length ≤ 8 := by
  unfold takev
  split
  · simp [zeroS]
  · split
    · simp [zeroS]
    · split
      · simp [zeroS]
      · rename_i h1 _ _
        have : (tkSt S).Shots.length = (tkN S).2.2 := by
          show (tkS S).2.2.length = _
          unfold tkS
          exact shotsR_len
        simp only [this]; omega
theorem takev_err {S : List UInt8} (h : (takev S).2 ≠ 0) : (takev S).1 = zeroS := by
  unfold takev at h ⊢
  split
  · rfl
  · rename_i h1
    rw [if_neg h1] at h
    split
    · rfl
    · rename_i h2
      rw [if_neg h2] at h
      split
      · rfl
      · rename_i h3
        rw [if_neg h3] at h
        exact absurd rfl h

theorem stB_split (s : T_api_State) (h : StOk s) : toB (stB s) = bt (le 8 s.Frame.toNat) ++ (bt (le 8 s.Seed.toNat) ++ (bt (encW plW (plV s.Players.1)) ++ (bt (encW plW (plV s.Players.2)) ++ (bt (vb 9 s.Shots.length) ++ (toB (shsB s.Shots) ++ (bt (le 2 s.Score.1.toNat) ++ bt (le 2 s.Score.2.toNat))))))) := by
  simp only [stB, toB_append, plB_V h.P1, plB_V h.P2]
  rfl

/-- What was put is taken. -/
theorem take_back {s : T_api_State} {r : List UInt8} (h : StOk s) (hg : stGood s = true) : takev (toB (stB s) ++ r) = if r = [] then (s, 0) else (zeroS, 4) := by
  have h8 : (256 : Nat) ^ 8 = 18446744073709551616 := by decide
  have hle := stGood_leI hg
  have hsp := stB_split s h
  obtain ⟨f, hf⟩ := Int.eq_ofNat_of_zero_le h.Frame.1
  obtain ⟨d, hd⟩ := Int.eq_ofNat_of_zero_le h.Seed.1
  obtain ⟨a, ha⟩ := Int.eq_ofNat_of_zero_le h.Sc1.1
  obtain ⟨b, hb⟩ := Int.eq_ofNat_of_zero_le h.Sc2.1
  have f1 := h.Frame.2
  have f2 := h.Seed.2
  have f3 := h.Sc1.2
  have f4 := h.Sc2.2
  rw [hf, hd, ha, hb] at hsp
  simp only [Int.toNat_natCast] at hsp
  generalize hS : toB (stB s) ++ r = S
  rw [hsp] at hS
  have hpl : ∀ p : T_api_Player, PlOk p → (bt (encW plW (plV p))).length = 19 := fun p hp => by rw [bt_length, encW_length (plV_fit hp)]; rfl
  have hsl : (toB (shsB s.Shots)).length = 18 * s.Shots.length := by rw [toB_length, shsB_length]
  have hlen := congrArg List.length hS
  simp only [List.length_append, bt_length, le_length, hsl] at hlen
  have l1 := hpl _ h.P1
  have l2 := hpl _ h.P2
  rw [bt_length] at l1 l2
  have hvl := vb_length 9 s.Shots.length
  have d0 : S.drop 0 = bt (le 8 f) ++ (bt (le 8 d) ++ (bt (encW plW (plV s.Players.1)) ++ (bt (encW plW (plV s.Players.2)) ++ (bt (vb 9 s.Shots.length) ++ (toB (shsB s.Shots) ++ (bt (le 2 a) ++ (bt (le 2 b) ++ r))))))) := by
    rw [List.drop_zero, ← hS]; simp only [List.append_assoc]
  have nx : ∀ (x : Nat) (u v : List UInt8), S.drop x = u ++ v → S.drop (x + u.length) = v := fun x u v hx => by rw [← List.drop_drop, hx, List.drop_left' rfl]
  have q1 : tkF S = (8, 0, f) := by unfold tkF; rw [numv_back (by omega) d0 (by omega)]
  have d1 := nx _ _ _ d0
  rw [bt_length, le_length] at d1
  have q2 : tkD S = (16, 0, d) := by unfold tkD; rw [q1]; rw [numv_back (by omega) d1 (by omega)]
  have d2 := nx _ _ _ d1
  rw [bt_length, le_length] at d2
  have q3 : tkP S = (35, 0, plV s.Players.1) := by unfold tkP; rw [q2]; rw [rdW_back (plV_fit h.P1) (by omega) d2]; rfl
  have d3 := nx _ _ _ d2
  rw [hpl _ h.P1] at d3
  have q4 : tkQ S = (54, 0, plV s.Players.2) := by unfold tkQ; rw [q3]; rw [rdW_back (plV_fit h.P2) (by omega) d3]; rfl
  have d4 := nx _ _ _ d3
  rw [hpl _ h.P2] at d4
  have q5 : tkN S = (54 + (vb 9 s.Shots.length).length, 0, s.Shots.length) := by unfold tkN; rw [q4]; rw [readv_back d4 (by omega)]
  have d5 := nx _ _ _ d4
  rw [bt_length] at d5
  have q6 : tkS S = (54 + (vb 9 s.Shots.length).length + 18 * s.Shots.length, 0, s.Shots) := by unfold tkS; rw [q5]; rw [shotsR_back h.Shots (by omega) d5]
  have d6 := nx _ _ _ d5
  rw [hsl] at d6
  have q7 : tkA S = (54 + (vb 9 s.Shots.length).length + 18 * s.Shots.length + 2, 0, a) := by unfold tkA; rw [q6]; rw [numv_back (by omega) d6 (by omega)]
  have d7 := nx _ _ _ d6
  rw [bt_length, le_length] at d7
  have q8 : tkB S = (54 + (vb 9 s.Shots.length).length + 18 * s.Shots.length + 2 + 2, 0, b) := by unfold tkB; rw [q7]; rw [numv_back (by omega) d7 (by omega)]
  have d8 := nx _ _ _ d7
  rw [bt_length, le_length] at d8
  have hst : tkSt S = s := by
    unfold tkSt
    rw [q1, q2, q3, q4, q6, q7, q8, plOf_V h.P1, plOf_V h.P2]
    simp only [← hf, ← hd, ← ha, ← hb]
  unfold takev
  rw [hst, q5, q8]
  simp only [ne_eq, not_true_eq_false, if_false, hg, d8]
  rw [if_neg (by omega)]
  by_cases hr : r = []
  · simp [hr]
  · simp [hr]

/-- A beginning of it lacks bytes. -/
theorem take_torn {s : T_api_State} {c : Nat} (h : StOk s) (hg : stGood s = true) (hc : c < (toB (stB s)).length) : takev ((toB (stB s)).take c) = (zeroS, 10) := by
  have h8 : (256 : Nat) ^ 8 = 18446744073709551616 := by decide
  have hle := stGood_leI hg
  have hsp := stB_split s h
  obtain ⟨f, hf⟩ := Int.eq_ofNat_of_zero_le h.Frame.1
  obtain ⟨d, hd⟩ := Int.eq_ofNat_of_zero_le h.Seed.1
  obtain ⟨a, ha⟩ := Int.eq_ofNat_of_zero_le h.Sc1.1
  obtain ⟨b, hb⟩ := Int.eq_ofNat_of_zero_le h.Sc2.1
  have f1 := h.Frame.2
  have f2 := h.Seed.2
  have f3 := h.Sc1.2
  have f4 := h.Sc2.2
  rw [hf, hd, ha, hb] at hsp
  simp only [Int.toNat_natCast] at hsp
  have hpl : ∀ p : T_api_Player, PlOk p → (bt (encW plW (plV p))).length = 19 := fun p hp => by rw [bt_length, encW_length (plV_fit hp)]; rfl
  have hsl : (toB (shsB s.Shots)).length = 18 * s.Shots.length := by rw [toB_length, shsB_length]
  have l1 := hpl _ h.P1
  have l2 := hpl _ h.P2
  have hvl := vb_length 9 s.Shots.length
  have hlen := congrArg List.length hsp
  simp only [List.length_append, bt_length, le_length, hsl] at hlen l1 l2
  have hcl : ((toB (stB s)).take c).length = c := by rw [List.length_take]; omega
  generalize hS : (toB (stB s)).take c = S at *
  rw [hsp] at hS
  have e10 : (10 : Int) ≠ 0 := by decide
  -- what follows an error
  have last : (tkB S).2.1 = 10 → ¬ 8 < (tkN S).2.2 → takev S = (zeroS, 10) := by
    intro h1 h2
    unfold takev
    rw [if_neg h2, h1]
    simp
  have eA : (tkA S).2.1 = 10 → (tkB S).2.1 = 10 := fun h => by unfold tkB; rw [h, numv_err e10]
  have eS : (tkS S).2.1 = 10 → (tkB S).2.1 = 10 := fun h => eA (by unfold tkA; rw [h, numv_err e10])
  have eN : (tkN S).2.1 = 10 → takev S = (zeroS, 10) := fun h => by
    refine last (eS (by unfold tkS; rw [h]; exact (shotsR_err e10).2)) ?_
    have : (tkN S).2.2 = 0 := by unfold tkN at h ⊢; exact readv_bad (by rw [h]; exact e10)
    omega
  have eQ : (tkQ S).2.1 = 10 → takev S = (zeroS, 10) := fun h => eN (by unfold tkN; rw [h, readv_err e10])
  have eP : (tkP S).2.1 = 10 → takev S = (zeroS, 10) := fun h => eQ (by unfold tkQ; rw [h]; exact (rdW_err e10).2)
  have eD : (tkD S).2.1 = 10 → takev S = (zeroS, 10) := fun h => eP (by unfold tkP; rw [h]; exact (rdW_err e10).2)
  have eF : (tkF S).2.1 = 10 → takev S = (zeroS, 10) := fun h => eD (by unfold tkD; rw [h, numv_err e10])
  have lo : ∀ (x n : Nat) (u v : List UInt8), u.length = n → S.drop x = (u ++ v).take (c - x) → c - x < n → S.drop x = u.take (c - x) := fun x n u v hu hx hlt => by
    rw [hx, List.take_append_of_le_length (by omega)]
  have hi : ∀ (x n : Nat) (u v : List UInt8), u.length = n → S.drop x = (u ++ v).take (c - x) → ¬ c - x < n → S.drop x = u ++ v.take (c - (x + n)) := fun x n u v hu hx hlt => by
    rw [hx, List.take_append, hu, List.take_of_length_le (by omega)]
    congr 2; omega
  have nx : ∀ (x n : Nat) (u v : List UInt8), u.length = n → S.drop x = u ++ v → S.drop (x + n) = v := fun x n u v hu hx => by rw [← List.drop_drop, hx, List.drop_left' hu]
  have d0 : S.drop 0 = (bt (le 8 f) ++ (bt (le 8 d) ++ (bt (encW plW (plV s.Players.1)) ++ (bt (encW plW (plV s.Players.2)) ++ (bt (vb 9 s.Shots.length) ++ (toB (shsB s.Shots) ++ (bt (le 2 a) ++ bt (le 2 b)))))))).take (c - 0) := by
    rw [List.drop_zero, ← hS, Nat.sub_zero]
  have b8 : ∀ n, (bt (le 8 n)).length = 8 := fun n => by rw [bt_length, le_length]
  have b2 : ∀ n, (bt (le 2 n)).length = 2 := fun n => by rw [bt_length, le_length]
  have bv : (bt (vb 9 s.Shots.length)).length = (vb 9 s.Shots.length).length := bt_length _
  by_cases t0 : c - 0 < 8
  · exact eF (by unfold tkF; rw [numv_torn (by omega)])
  have u0 := hi _ _ _ _ (b8 f) d0 t0
  have q1 : tkF S = (8, 0, f) := by unfold tkF; rw [numv_back (by omega) u0 (by omega)]
  have d1 := nx _ _ _ _ (b8 f) u0
  by_cases t1 : c - (0 + 8) < 8
  · exact eD (by unfold tkD; rw [q1]; rw [numv_torn (by first | omega | (simp only; omega))])
  have u1 := hi _ _ _ _ (b8 d) d1 t1
  have q2 : tkD S = (16, 0, d) := by unfold tkD; rw [q1]; rw [numv_back (by first | omega | (simp only; omega)) u1 (by omega)]
  have d2 := nx _ _ _ _ (b8 d) u1
  by_cases t2 : c - (0 + 8 + 8) < 19
  · exact eP (by unfold tkP; rw [q2]; exact rdW_torn (plV_fit h.P1) (by first | omega | (simp only; omega)) (lo _ _ _ _ (hpl _ h.P1) d2 t2) t2)
  have u2 := hi _ _ _ _ (hpl _ h.P1) d2 t2
  have q3 : tkP S = (35, 0, plV s.Players.1) := by unfold tkP; rw [q2]; rw [rdW_back (plV_fit h.P1) (by first | omega | (simp only; omega)) u2]; rfl
  have d3 := nx _ _ _ _ (hpl _ h.P1) u2
  by_cases t3 : c - (0 + 8 + 8 + 19) < 19
  · exact eQ (by unfold tkQ; rw [q3]; exact rdW_torn (plV_fit h.P2) (by first | omega | (simp only; omega)) (lo _ _ _ _ (hpl _ h.P2) d3 t3) t3)
  have u3 := hi _ _ _ _ (hpl _ h.P2) d3 t3
  have q4 : tkQ S = (54, 0, plV s.Players.2) := by unfold tkQ; rw [q3]; rw [rdW_back (plV_fit h.P2) (by first | omega | (simp only; omega)) u3]; rfl
  have d4 := nx _ _ _ _ (hpl _ h.P2) u3
  by_cases t4 : c - (0 + 8 + 8 + 19 + 19) < (vb 9 s.Shots.length).length
  · exact eN (by unfold tkN; rw [q4]; rw [readv_torn (by first | omega | (simp only; omega)) (lo _ _ _ _ bv d4 t4) t4])
  have u4 := hi _ _ _ _ bv d4 t4
  have q5 : tkN S = (54 + (vb 9 s.Shots.length).length, 0, s.Shots.length) := by unfold tkN; rw [q4]; rw [readv_back u4 (by omega)]
  have d5 := nx _ _ _ _ bv u4
  have n8 : ¬ 8 < (tkN S).2.2 := by rw [q5]; simp only; omega
  by_cases t5 : c - (0 + 8 + 8 + 19 + 19 + (vb 9 s.Shots.length).length) < 18 * s.Shots.length
  · exact last (eS (by unfold tkS; rw [q5]; exact shotsR_torn h.Shots (by first | omega | (simp only; omega)) (lo _ _ _ _ hsl d5 t5) t5)) n8
  have u5 := hi _ _ _ _ hsl d5 t5
  have q6 : tkS S = (54 + (vb 9 s.Shots.length).length + 18 * s.Shots.length, 0, s.Shots) := by unfold tkS; rw [q5]; rw [shotsR_back h.Shots (by first | omega | (simp only; omega)) u5]
  have d6 := nx _ _ _ _ hsl u5
  by_cases t6 : c - (0 + 8 + 8 + 19 + 19 + (vb 9 s.Shots.length).length + 18 * s.Shots.length) < 2
  · exact last (eA (by unfold tkA; rw [q6]; rw [numv_torn (by first | omega | (simp only; omega))])) n8
  have u6 := hi _ _ _ _ (b2 a) d6 t6
  have q7 : tkA S = (54 + (vb 9 s.Shots.length).length + 18 * s.Shots.length + 2, 0, a) := by unfold tkA; rw [q6]; rw [numv_back (by first | omega | (simp only; omega)) u6 (by omega)]
  exact last (by unfold tkB; rw [q7]; rw [numv_torn (by first | omega | (simp only; omega))]) n8

/-- What was taken is put. -/
theorem take_one {S : List UInt8} {s : T_api_State} (h : takev S = (s, 0)) : StOk s ∧ stGood s = true ∧ toB (stB s) = S := by
  unfold takev at h
  split at h
  · simp at h
  · rename_i h1
    split at h
    · rename_i h2
      simp only [Prod.mk.injEq] at h
      exact absurd h.2 h2
    · rename_i h2
      have h2 : (tkB S).2.1 = 0 := Decidable.not_not.1 h2
      split at h
      · simp at h
      · rename_i h3
        simp only [Prod.mk.injEq] at h
        obtain ⟨rfl, _⟩ := h
        have hd : S.drop (tkB S).1 = [] := Decidable.not_not.1 fun hh => h3 (.inl hh)
        have hg : stGood (tkSt S) = true := by
          cases hq : stGood (tkSt S)
          · exact absurd (.inr hq) h3
          · rfl
        have hok := tkSt_ok S
        refine ⟨hok, hg, ?_⟩
        rw [stB_split _ hok]
        obtain ⟨b1, b2, b3, b4⟩ := numv_one (S := S) (a := (tkA S).1) (e := (tkA S).2.1) (k := 2) h2
        obtain ⟨a1, a2, a3, a4⟩ := numv_one (S := S) (a := (tkS S).1) (e := (tkS S).2.1) (k := 2) b1
        obtain ⟨s1, s2, s3, s4⟩ := shotsR_one (S := S) (n := (tkN S).2.2) (a := (tkN S).1) (e := (tkN S).2.1) (tkN_le S) a1
        obtain ⟨n1, n2, n3, n4, n5⟩ := readv_one (S := S) (a := (tkQ S).1) (e := (tkQ S).2.1) s1
        obtain ⟨q1, q2, q3, q4⟩ := rdW_one (S := S) (ks := plW) (a := (tkP S).1) (e := (tkP S).2.1) (tkP_le S) n1
        obtain ⟨p1, p2, p3, p4⟩ := rdW_one (S := S) (ks := plW) (a := (tkD S).1) (e := (tkD S).2.1) (tkD_le S) q1
        obtain ⟨d1, d2, d3, d4⟩ := numv_one (S := S) (a := (tkF S).1) (e := (tkF S).2.1) (k := 8) p1
        obtain ⟨f1, f2, f3, f4⟩ := numv_one (S := S) (a := 0) (e := 0) (k := 8) d1
        have e1 : bt (le 8 (tkSt S).Frame.toNat) = (S.drop 0).take 8 := f4
        have e2 : bt (le 8 (tkSt S).Seed.toNat) = (S.drop (tkF S).1).take 8 := d4
        have e3 : bt (encW plW (plV (tkSt S).Players.1)) = (S.drop (tkD S).1).take 19 := by
          exact (congrArg (fun v => bt (encW plW v)) (plOf_ok (rdW_fit (S := S) (a := (tkD S).1) (e := (tkD S).2.1) plW8)).2).trans p4
        have e4 : bt (encW plW (plV (tkSt S).Players.2)) = (S.drop (tkP S).1).take 19 := by
          exact (congrArg (fun v => bt (encW plW v)) (plOf_ok (rdW_fit (S := S) (a := (tkP S).1) (e := (tkP S).2.1) plW8)).2).trans q4
        have e5 : bt (vb 9 (tkSt S).Shots.length) = (S.drop (tkQ S).1).take ((tkN S).1 - (tkQ S).1) := by
          show bt (vb 9 (tkS S).2.2.length) = _
          unfold tkS
          rw [shotsR_len]; exact n5
        have e6 : toB (shsB (tkSt S).Shots) = (S.drop (tkN S).1).take (18 * (tkN S).2.2) := s4
        have e7 : bt (le 2 (tkSt S).Score.1.toNat) = (S.drop (tkS S).1).take 2 := a4
        have e8 : bt (le 2 (tkSt S).Score.2.toNat) = (S.drop (tkA S).1).take 2 := b4
        have g1 : (tkF S).1 = 0 + 8 := f2
        have g2 : (tkD S).1 = (tkF S).1 + 8 := d2
        have g3 : (tkP S).1 = (tkD S).1 + 19 := p2
        have g4 : (tkQ S).1 = (tkP S).1 + 19 := q2
        have g5 : (tkN S).1 = (tkQ S).1 + ((tkN S).1 - (tkQ S).1) := by
          have : (tkQ S).1 < (tkN S).1 := n3
          omega
        have g6 : (tkS S).1 = (tkN S).1 + 18 * (tkN S).2.2 := s2
        have g7 : (tkA S).1 = (tkS S).1 + 2 := a2
        have g8 : (tkB S).1 = (tkA S).1 + 2 := b2
        have join : ∀ x n y, y = x + n → (S.drop x).take n ++ S.drop y = S.drop x := fun x n y hy => by rw [hy, ← List.drop_drop, List.take_append_drop]
        have r8 : (S.drop (tkA S).1).take 2 = S.drop (tkA S).1 := by
          have := join _ _ _ g8
          rw [hd, List.append_nil] at this; exact this
        rw [e1, e2, e3, e4, e5, e6, e7, e8, r8, join _ _ _ g7, join _ _ _ g6, join _ _ _ g5, join _ _ _ g4, join _ _ _ g3, join _ _ _ g2, join _ _ _ g1, List.drop_zero]

end Go.Proofs.YtekplmhmppdpcaaDoor
