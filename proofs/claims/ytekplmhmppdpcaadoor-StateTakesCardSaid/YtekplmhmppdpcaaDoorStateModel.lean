/-
  Chapter 08: what the program and the document take off a text, in plain Lean.
-/
import Derived.Test.YtekplmhmppdpcaaDoorStateTake
import Derived.Test.YtekplmhmppdpcaaDoorStateEq
namespace Go.Proofs.YtekplmhmppdpcaaDoor
open Go Go.Proofs.YtekplmhmppdpcaaDoor.Eng
set_option linter.unusedSimpArgs false
set_option linter.unusedVariables false
set_option maxHeartbeats 1000000

variable {F : Nat}

def wid : Nat → Nat → List Nat
  | _, 0 => []
  | i, r + 1 => (if i < 4 then 4 else 1) :: wid (i + 1) r

theorem set_take {α : Type} {l : List α} {i : Nat} (h : i < l.length) (x : α) : (l.set i x).take (i + 1) = l.take i ++ [x] := by
  rw [List.take_succ_eq_append_getElem (by simpa using h)]
  simp only [List.getElem_set_self, List.append_cancel_right_eq]
  apply List.ext_getElem?
  intro j
  simp only [List.getElem?_take, List.getElem?_set]
  split
  · rw [if_neg (by omega)]
  · rfl

theorem i32_r {S : List UInt8} {a : Nat} {e : Int} (ha : a ≤ S.length) (hS : S.length ≤ 1000000) (hF : 20 ≤ F) : m_codec_Reader_I32 F (rdr S a e) = some (rdr S (numv S a e 4).1 (numv S a e 4).2.1, IntKind.wrap .i32 (((numv S a e 4).2.2 : Nat) : Int)) := by
  simp only [m_codec_Reader_I32, get32_of (F := F) ha hS (by omega), Option.bind_some]
theorem u8_r {S : List UInt8} {a : Nat} {e : Int} (ha : a ≤ S.length) (hS : S.length ≤ 1000000) (hF : 20 ≤ F) : m_codec_Reader_U8 F (rdr S a e) = some (rdr S (numv S a e 1).1 (numv S a e 1).2.1, (((numv S a e 1).2.2 : Nat) : Int)) := by
  simp only [m_codec_Reader_U8, get8_of (F := F) ha hS (by omega), Option.bind_some]
theorem u16_r {S : List UInt8} {a : Nat} {e : Int} (ha : a ≤ S.length) (hS : S.length ≤ 1000000) (hF : 20 ≤ F) : m_codec_Reader_U16 F (rdr S a e) = some (rdr S (numv S a e 2).1 (numv S a e 2).2.1, (((numv S a e 2).2.2 : Nat) : Int)) := by
  simp only [m_codec_Reader_U16, get16_of (F := F) ha hS (by omega), Option.bind_some]
theorem u64_r {S : List UInt8} {a : Nat} {e : Int} (ha : a ≤ S.length) (hS : S.length ≤ 1000000) (hF : 20 ≤ F) : m_codec_Reader_U64 F (rdr S a e) = some (rdr S (numv S a e 8).1 (numv S a e 8).2.1, (((numv S a e 8).2.2 : Nat) : Int)) := by
  simp only [m_codec_Reader_U64, get64_of (F := F) ha hS (by omega), Option.bind_some]

theorem takeP_loop {S : List UInt8} {n : Nat} (hS : S.length ≤ 1000000) (hn : n ≤ 100) (hF : 20 ≤ F) : ∀ (r m i a : Nat) (e : Int) (l : List Int), r < m → i + r = n → l.length = n → a ≤ S.length →
    m_state_take_api_Player_f2_state_player_L8 F (n : Int) m (i : Int) l (rdr S a e) = some (l.take i ++ ((rdW S (wid i r) a e).2.2.map fun (v : Nat) => IntKind.wrap .i32 (v : Int)), rdr S (rdW S (wid i r) a e).1 (rdW S (wid i r) a e).2.1)
  | r, 0, i, a, e, l, hm, _, _, _ => by omega
  | 0, m + 1, i, a, e, l, hm, hi, hl, ha => by
    rw [m_state_take_api_Player_f2_state_player_L8.eq_2, decide_eq_false (show ¬ (i : Int) < (n : Int) by omega), cond_false]
    simp only [wid, rdW, List.map_nil, List.append_nil]
    rw [List.take_of_length_le (by omega)]
  | r + 1, m + 1, i, a, e, l, hm, hi, hl, ha => by
    have hw : IntKind.wrap .i64 ((i : Int) + 1) = ((i + 1 : Nat) : Int) := by rw [wr_i64 ⟨by omega, by omega⟩]; omega
    have hx : l[i]? = some l[i] := List.getElem?_eq_getElem (by omega)
    rw [m_state_take_api_Player_f2_state_player_L8.eq_2, decide_eq_true (show (i : Int) < (n : Int) by omega), cond_true]
    by_cases h4 : i < 4
    · have ih := takeP_loop hS hn hF r m (i + 1) (numv S a e 4).1 (numv S a e 4).2.1 (l.set i (IntKind.wrap .i32 (((numv S a e 4).2.2 : Nat) : Int))) (by omega) (by omega) (by simpa using hl) (numv_le ha)
      rw [decide_eq_true (show (i : Int) < 4 by omega), cond_true, i32_r ha hS hF]
      simp only [Option.bind_some, getI_nat, hx, hw, setI, Int.toNat_natCast, ih, wid, if_pos h4, rdW, List.map_cons]
      rw [set_take (by omega), List.append_assoc]
      rfl
    · have ih := takeP_loop hS hn hF r m (i + 1) (numv S a e 1).1 (numv S a e 1).2.1 (l.set i (IntKind.wrap .i32 (((numv S a e 1).2.2 : Nat) : Int))) (by omega) (by omega) (by simpa using hl) (numv_le ha)
      rw [decide_eq_false (show ¬ (i : Int) < 4 by omega), cond_false, u8_r ha hS hF]
      simp only [Option.bind_some, getI_nat, hx, hw, setI, Int.toNat_natCast, ih, wid, if_neg h4, rdW, List.map_cons]
      rw [set_take (by omega), List.append_assoc]
      rfl

theorem player_of {v : List Nat} (h : fitW plW v) : m_state_player F (v.map fun (v : Nat) => IntKind.wrap .i32 (v : Int)) = some (plOf v) := by
  match v, h with
  | [a, b, c, d, x, y, z], ⟨h1, h2, h3, h4, h5, h6, h7, _⟩ =>
    have g : ∀ n : Nat, n < 256 ^ 1 → IntKind.wrap .u8 (IntKind.wrap .i32 (n : Int)) = (n : Int) := fun n hn => by
      rw [wr_i32 ⟨by omega, by omega⟩, wr_u8 ⟨by omega, by omega⟩]
    simp only [m_state_player, List.map_cons, List.map_nil, plOf]
    simp [getI, g x h5, g y h6, g z h7]

theorem takeP_of {S : List UInt8} {a : Nat} {e : Int} (ha : a ≤ S.length) (hS : S.length ≤ 1000000) (hF : 20 ≤ F) : m_state_take_api_Player_f2_state_player F (rdr S a e) 7 = some (rdr S (rdW S plW a e).1 (rdW S plW a e).2.1, plOf (rdW S plW a e).2.2) := by
  have hmk : mkI (7 : Int) (0 : Int) = some (List.replicate 7 0) := rfl
  have h := takeP_loop (F := F) (n := 7) hS (by omega) hF 7 F 0 a e (List.replicate 7 0) (by omega) rfl rfl ha
  have h' : m_state_take_api_Player_f2_state_player_L8 F 7 F 0 (List.replicate 7 0) (rdr S a e) = some ([] ++ ((rdW S plW a e).2.2.map fun (v : Nat) => IntKind.wrap .i32 (v : Int)), rdr S (rdW S plW a e).1 (rdW S plW a e).2.1) := h
  simp only [m_state_take_api_Player_f2_state_player, hmk, Option.bind_some, h', List.nil_append, player_of (F := F) (rdW_fit (S := S) (a := a) (e := e) plW8)]

theorem takeS_loop {S : List UInt8} {n : Nat} (hS : S.length ≤ 1000000) (hn : n ≤ 100) (hF : 20 ≤ F) : ∀ (r m i a : Nat) (e : Int) (l : List Int), r < m → i + r = n → l.length = n → a ≤ S.length →
    m_state_take_api_Shot_f2_state_shot_L8 F (n : Int) m (i : Int) l (rdr S a e) = some (l.take i ++ ((rdW S (wid i r) a e).2.2.map fun (v : Nat) => IntKind.wrap .i32 (v : Int)), rdr S (rdW S (wid i r) a e).1 (rdW S (wid i r) a e).2.1)
  | r, 0, i, a, e, l, hm, _, _, _ => by omega
  | 0, m + 1, i, a, e, l, hm, hi, hl, ha => by
    rw [m_state_take_api_Shot_f2_state_shot_L8.eq_2, decide_eq_false (show ¬ (i : Int) < (n : Int) by omega), cond_false]
    simp only [wid, rdW, List.map_nil, List.append_nil]
    rw [List.take_of_length_le (by omega)]
  | r + 1, m + 1, i, a, e, l, hm, hi, hl, ha => by
    have hw : IntKind.wrap .i64 ((i : Int) + 1) = ((i + 1 : Nat) : Int) := by rw [wr_i64 ⟨by omega, by omega⟩]; omega
    have hx : l[i]? = some l[i] := List.getElem?_eq_getElem (by omega)
    rw [m_state_take_api_Shot_f2_state_shot_L8.eq_2, decide_eq_true (show (i : Int) < (n : Int) by omega), cond_true]
    by_cases h4 : i < 4
    · have ih := takeS_loop hS hn hF r m (i + 1) (numv S a e 4).1 (numv S a e 4).2.1 (l.set i (IntKind.wrap .i32 (((numv S a e 4).2.2 : Nat) : Int))) (by omega) (by omega) (by simpa using hl) (numv_le ha)
      rw [decide_eq_true (show (i : Int) < 4 by omega), cond_true, i32_r ha hS hF]
      simp only [Option.bind_some, getI_nat, hx, hw, setI, Int.toNat_natCast, ih, wid, if_pos h4, rdW, List.map_cons]
      rw [set_take (by omega), List.append_assoc]
      rfl
    · have ih := takeS_loop hS hn hF r m (i + 1) (numv S a e 1).1 (numv S a e 1).2.1 (l.set i (IntKind.wrap .i32 (((numv S a e 1).2.2 : Nat) : Int))) (by omega) (by omega) (by simpa using hl) (numv_le ha)
      rw [decide_eq_false (show ¬ (i : Int) < 4 by omega), cond_false, u8_r ha hS hF]
      simp only [Option.bind_some, getI_nat, hx, hw, setI, Int.toNat_natCast, ih, wid, if_neg h4, rdW, List.map_cons]
      rw [set_take (by omega), List.append_assoc]
      rfl

theorem shot_of {v : List Nat} (h : fitW shW v) : m_state_shot F (v.map fun (v : Nat) => IntKind.wrap .i32 (v : Int)) = some (shOf v) := by
  match v, h with
  | [a, b, c, d, x, y], ⟨h1, h2, h3, h4, h5, h6, _⟩ =>
    have g : ∀ n : Nat, n < 256 ^ 1 → IntKind.wrap .u8 (IntKind.wrap .i32 (n : Int)) = (n : Int) := fun n hn => by
      rw [wr_i32 ⟨by omega, by omega⟩, wr_u8 ⟨by omega, by omega⟩]
    simp only [m_state_shot, List.map_cons, List.map_nil, shOf]
    simp [getI, g x h5, g y h6]

theorem takeS_of {S : List UInt8} {a : Nat} {e : Int} (ha : a ≤ S.length) (hS : S.length ≤ 1000000) (hF : 20 ≤ F) : m_state_take_api_Shot_f2_state_shot F (rdr S a e) 6 = some (rdr S (rdW S shW a e).1 (rdW S shW a e).2.1, shOf (rdW S shW a e).2.2) := by
  have hmk : mkI (6 : Int) (0 : Int) = some (List.replicate 6 0) := rfl
  have h := takeS_loop (F := F) (n := 6) hS (by omega) hF 6 F 0 a e (List.replicate 6 0) (by omega) rfl rfl ha
  have h' : m_state_take_api_Shot_f2_state_shot_L8 F 6 F 0 (List.replicate 6 0) (rdr S a e) = some ([] ++ ((rdW S shW a e).2.2.map fun (v : Nat) => IntKind.wrap .i32 (v : Int)), rdr S (rdW S shW a e).1 (rdW S shW a e).2.1) := h
  simp only [m_state_take_api_Shot_f2_state_shot, hmk, Option.bind_some, h', List.nil_append, shot_of (F := F) (rdW_fit (S := S) (a := a) (e := e) shW8)]

theorem takeSs_loop {S : List UInt8} {n : Nat} (hS : S.length ≤ 1000000) (hn : n ≤ 8) (hF : 20 ≤ F) : ∀ (r m k a : Nat) (e : Int) (acc : List T_api_Shot), r < m → k + r = n → acc.length = k → a ≤ S.length →
    m_state_Take_L37 F (n : Int) m (k : Int) (rdr S a e) acc = some (rdr S (shotsR S r a e).1 (shotsR S r a e).2.1, acc ++ (shotsR S r a e).2.2)
  | r, 0, k, a, e, acc, hm, _, _, _ => by omega
  | 0, m + 1, k, a, e, acc, hm, hk, hl, ha => by
    rw [m_state_Take_L37.eq_2, decide_eq_false (show ¬ (k : Int) < (n : Int) by omega), cond_false]
    simp only [shotsR, List.append_nil]
  | r + 1, m + 1, k, a, e, acc, hm, hk, hl, ha => by
    have hw : IntKind.wrap .u64 ((k : Int) + 1) = ((k + 1 : Nat) : Int) := by rw [wr_u64 ⟨by omega, by omega⟩]; omega
    have ih := takeSs_loop hS hn hF r m (k + 1) (rdW S shW a e).1 (rdW S shW a e).2.1 (acc ++ [shOf (rdW S shW a e).2.2]) (by omega) (by omega) (by simp [hl]) (rdW_le ha)
    rw [m_state_Take_L37.eq_2, decide_eq_true (show (k : Int) < (n : Int) by omega), cond_true, takeS_of ha hS hF]
    simp only [Option.bind_some]
    rw [appI_of (by simp; omega)]
    simp only [Option.bind_some, hw, ih, shotsR, List.append_assoc]
    rfl

theorem take_of {S : List UInt8} (hS : S.length ≤ 100000) (hF : 20 ≤ F) : m_state_Take F S = some (takev S) := by
  have hn : m_codec_New F S = some (rdr S 0 0) := rfl
  have hE : ∀ b e, m_codec_Reader_Err F (rdr S b e) = some e := fun _ _ => rfl
  obtain ⟨m, hm⟩ : ∃ m, F = m + 3 := ⟨F - 3, by omega⟩
  have w1 : IntKind.wrap .i64 ((0 : Int) + 1) = 1 := wr_i64 ⟨by omega, by omega⟩
  have w2 : IntKind.wrap .i64 ((1 : Int) + 1) = 2 := wr_i64 ⟨by omega, by omega⟩
  have r1 : m_codec_Reader_U64 F (rdr S 0 0) = some (rdr S (tkF S).1 (tkF S).2.1, (((tkF S).2.2 : Nat) : Int)) := u64_r (by omega) (by omega) hF
  have r2 : m_codec_Reader_U64 F (rdr S (tkF S).1 (tkF S).2.1) = some (rdr S (tkD S).1 (tkD S).2.1, (((tkD S).2.2 : Nat) : Int)) := u64_r (tkF_le S) (by omega) hF
  have r3 : m_state_take_api_Player_f2_state_player F (rdr S (tkD S).1 (tkD S).2.1) 7 = some (rdr S (tkP S).1 (tkP S).2.1, plOf (tkP S).2.2) := takeP_of (tkD_le S) (by omega) hF
  have r4 : m_state_take_api_Player_f2_state_player F (rdr S (tkP S).1 (tkP S).2.1) 7 = some (rdr S (tkQ S).1 (tkQ S).2.1, plOf (tkQ S).2.2) := takeP_of (tkP_le S) (by omega) hF
  have r5 : m_codec_Reader_Var F (rdr S (tkQ S).1 (tkQ S).2.1) = some (rdr S (tkN S).1 (tkN S).2.1, (((tkN S).2.2 : Nat) : Int)) := var_r (tkQ_le S) (by omega) hF
  have r7 : m_codec_Reader_U16 F (rdr S (tkS S).1 (tkS S).2.1) = some (rdr S (tkA S).1 (tkA S).2.1, (((tkA S).2.2 : Nat) : Int)) := u16_r (tkS_le S) (by omega) hF
  have r8 : m_codec_Reader_U16 F (rdr S (tkA S).1 (tkA S).2.1) = some (rdr S (tkB S).1 (tkB S).2.1, (((tkB S).2.2 : Nat) : Int)) := u16_r (tkA_le S) (by omega) hF
  have hL1 : ∀ p q, m_state_Take_L10 F F 0 (rdr S (tkD S).1 (tkD S).2.1) (p, q) = some (rdr S (tkQ S).1 (tkQ S).2.1, (plOf (tkP S).2.2, plOf (tkQ S).2.2)) := by
    intro p q
    have e : m_state_Take_L10 F F = m_state_Take_L10 F (m + 3) := by rw [← hm]
    rw [e]
    simp only [m_state_Take_L10, r3, r4, Option.bind_some, w1, w2, show decide ((0 : Int) < 2) = true from rfl, show decide ((1 : Int) < 2) = true from rfl, show decide ((2 : Int) < 2) = false from rfl,
      show ((0 : Int) == 0) = true from rfl, show ((1 : Int) == 0) = false from rfl, show ((1 : Int) == 1) = true from rfl, cond_true, cond_false]
  have hL3 : ∀ p q, m_state_Take_L52 F F 0 (rdr S (tkS S).1 (tkS S).2.1) (p, q) = some (rdr S (tkB S).1 (tkB S).2.1, ((((tkA S).2.2 : Nat) : Int), (((tkB S).2.2 : Nat) : Int))) := by
    intro p q
    have e : m_state_Take_L52 F F = m_state_Take_L52 F (m + 3) := by rw [← hm]
    rw [e]
    simp only [m_state_Take_L52, r7, r8, Option.bind_some, w1, w2, show decide ((0 : Int) < 2) = true from rfl, show decide ((1 : Int) < 2) = true from rfl, show decide ((2 : Int) < 2) = false from rfl,
      show ((0 : Int) == 0) = true from rfl, show ((1 : Int) == 0) = false from rfl, show ((1 : Int) == 1) = true from rfl, cond_true, cond_false]
  simp only [m_state_Take, hn, r1, r2, hL1, r5, Option.bind_some]
  unfold takev
  by_cases h8 : 8 < (tkN S).2.2
  · rw [decide_eq_true (show (8 : Int) < (((tkN S).2.2 : Nat) : Int) by omega), cond_true, if_pos h8]
    rfl
  · have hs := takeSs_loop (F := F) (S := S) (n := (tkN S).2.2) (by omega) (by omega) hF (tkN S).2.2 F 0 (tkN S).1 (tkN S).2.1 [] (by omega) (by omega) rfl (tkN_le S)
    have hs' : m_state_Take_L37 F (((tkN S).2.2 : Nat) : Int) F 0 (rdr S (tkN S).1 (tkN S).2.1) [] = some (rdr S (tkS S).1 (tkS S).2.1, (tkS S).2.2) := hs
    rw [decide_eq_false (show ¬ (8 : Int) < (((tkN S).2.2 : Nat) : Int) by omega), cond_false, if_neg h8]
    simp only [hs', Option.bind_some, hL3, hE]
    by_cases he : (tkB S).2.1 = 0
    · have hR : m_codec_Reader_Rest F (rdr S (tkB S).1 0) = some (S.drop (tkB S).1) := rfl
      have hst : T_api_State.mk (((tkF S).2.2 : Nat) : Int) (((tkD S).2.2 : Nat) : Int) (plOf (tkP S).2.2, plOf (tkQ S).2.2) (tkS S).2.2 ((((tkA S).2.2 : Nat) : Int), (((tkB S).2.2 : Nat) : Int)) = tkSt S := rfl
      have hlen : (tkSt S).Shots.length = (tkN S).2.2 := by
        show (tkS S).2.2.length = _
        unfold tkS
        exact shotsR_len
      have hc := check_of (F := F) (tkSt_ok S) (by omega) (by omega) (by omega)
      rw [he]
      simp only [show ((0 : Int) != 0) = false from rfl, cond_false, hR, hst, hc, Option.bind_some, ne_eq, not_true_eq_false, if_false]
      by_cases hd : S.drop (tkB S).1 = []
      · rw [hd]
        simp only [beq_self_eq_true, Bool.not_true, cond_false, not_true_eq_false, false_or]
        cases hg : stGood (tkSt S)
        · rfl
        · rfl
      · rw [beq_eq_false_iff_ne.2 hd, if_pos (show ¬ (S.drop (tkB S).1 = []) ∨ stGood (tkSt S) = false from .inl hd)]
        rfl
    · rw [bne_iff_ne.2 he, cond_true, if_pos he]
      rfl

theorem rnum4 {S : List UInt8} {a : Nat} {e : Int} (ha : a ≤ S.length) (hS : S.length ≤ 1000000) (hF : 20 ≤ F) : m_hindcastref08_number F (rref S a e) = some (rref S (numv S a e 4).1 (numv S a e 4).2.1, IntKind.wrap .i32 (((numv S a e 4).2.2 : Nat) : Int)) := by
  have h := rnum_of (F := F) (k := 4) (e := e) (by omega) ha hS (by omega)
  have c4 : ((4 : Nat) : Int) = 4 := rfl
  have hlt := numv_lt (S := S) (a := a) (e := e) (k := 4) (by omega)
  have h4 : (256 : Nat) ^ 4 = 4294967296 := by decide
  rw [c4] at h
  simp only [m_hindcastref08_number, h, Option.bind_some]
  rw [wr_u32 ⟨by omega, by omega⟩]
theorem rnum1 {S : List UInt8} {a : Nat} {e : Int} (ha : a ≤ S.length) (hS : S.length ≤ 1000000) (hF : 20 ≤ F) : m_hindcastref02_Reader_Number F (rref S a e) 1 = some (rref S (numv S a e 1).1 (numv S a e 1).2.1, (((numv S a e 1).2.2 : Nat) : Int)) :=
  rnum_of (F := F) (k := 1) (by omega) ha hS (by omega)
theorem rnum2 {S : List UInt8} {a : Nat} {e : Int} (ha : a ≤ S.length) (hS : S.length ≤ 1000000) (hF : 20 ≤ F) : m_hindcastref02_Reader_Number F (rref S a e) 2 = some (rref S (numv S a e 2).1 (numv S a e 2).2.1, (((numv S a e 2).2.2 : Nat) : Int)) :=
  rnum_of (F := F) (k := 2) (by omega) ha hS (by omega)
theorem rnum8 {S : List UInt8} {a : Nat} {e : Int} (ha : a ≤ S.length) (hS : S.length ≤ 1000000) (hF : 20 ≤ F) : m_hindcastref02_Reader_Number F (rref S a e) 8 = some (rref S (numv S a e 8).1 (numv S a e 8).2.1, (((numv S a e 8).2.2 : Nat) : Int)) :=
  rnum_of (F := F) (k := 8) (by omega) ha hS (by omega)
theorem w8n {S : List UInt8} {a : Nat} {e : Int} : IntKind.wrap .u8 (((numv S a e 1).2.2 : Nat) : Int) = (((numv S a e 1).2.2 : Nat) : Int) := by
  have hlt := numv_lt (S := S) (a := a) (e := e) (k := 1) (by omega)
  exact wr_u8 ⟨by omega, by omega⟩

theorem rplR {S : List UInt8} {a : Nat} {e : Int} {β : Type} (ha : a ≤ S.length) (hS : S.length ≤ 1000000) (hF : 20 ≤ F) (k : T_hindcastref02_Reader → T_api_Player → Option β) :
    (Option.bind (m_hindcastref08_number F (rref S a e)) fun (o27_0, v27) => (Option.bind (m_hindcastref08_number F
        o27_0) fun (o30_0, v30) => (Option.bind (m_hindcastref08_number F o30_0) fun (o33_0, v33) => (Option.bind (m_hindcastref08_number F o33_0) fun
        (o36_0, v36) => (Option.bind (m_hindcastref02_Reader_Number F o36_0 (1 : Int)) fun (o39_0, v39) => (Option.bind (m_hindcastref02_Reader_Number
        F o39_0 (1 : Int)) fun (o43_0, v43) => (Option.bind (m_hindcastref02_Reader_Number F o43_0 (1 : Int)) fun (o47_0, v47) => k o47_0 (T_api_Player.mk v27 v30 v33 v36 (IntKind.wrap .u8 v39)
        (IntKind.wrap .u8 v43) (IntKind.wrap .u8 v47))))))))) = k (rref S (rdW S plW a e).1 (rdW S plW a e).2.1) (plOf (rdW S plW a e).2.2) := by
  have h1 := numv_le (k := 4) (e := e) ha
  rw [rnum4 ha hS hF]
  simp only [Option.bind_some]
  have h2 := numv_le (k := 4) (e := (numv S a e 4).2.1) h1
  rw [rnum4 h1 hS hF]
  simp only [Option.bind_some]
  have h3 := numv_le (k := 4) (e := (numv S (numv S a e 4).1 (numv S a e 4).2.1 4).2.1) h2
  rw [rnum4 h2 hS hF]
  simp only [Option.bind_some]
  rw [rnum4 h3 hS hF]
  simp only [Option.bind_some]
  rw [rnum1 (numv_le h3) hS hF]
  simp only [Option.bind_some]
  rw [rnum1 (numv_le (numv_le h3)) hS hF]
  simp only [Option.bind_some]
  rw [rnum1 (numv_le (numv_le (numv_le h3))) hS hF]
  simp only [Option.bind_some, w8n]
  rfl

theorem rshR {S : List UInt8} {a : Nat} {e : Int} {β : Type} (ha : a ≤ S.length) (hS : S.length ≤ 1000000) (hF : 20 ≤ F) (k : T_hindcastref02_Reader → T_api_Shot → Option β) :
    (Option.bind (m_hindcastref08_number F (rref S a e)) fun (o27_0, v27) => (Option.bind (m_hindcastref08_number F
        o27_0) fun (o30_0, v30) => (Option.bind (m_hindcastref08_number F o30_0) fun (o33_0, v33) => (Option.bind (m_hindcastref08_number F o33_0) fun
        (o36_0, v36) => (Option.bind (m_hindcastref02_Reader_Number F o36_0 (1 : Int)) fun (o39_0, v39) => (Option.bind (m_hindcastref02_Reader_Number
        F o39_0 (1 : Int)) fun (o43_0, v43) => k o43_0 (T_api_Shot.mk v27 v30 v33 v36 (IntKind.wrap .u8 v39)
        (IntKind.wrap .u8 v43)))))))) = k (rref S (rdW S shW a e).1 (rdW S shW a e).2.1) (shOf (rdW S shW a e).2.2) := by
  have h1 := numv_le (k := 4) (e := e) ha
  rw [rnum4 ha hS hF]
  simp only [Option.bind_some]
  have h2 := numv_le (k := 4) (e := (numv S a e 4).2.1) h1
  rw [rnum4 h1 hS hF]
  simp only [Option.bind_some]
  have h3 := numv_le (k := 4) (e := (numv S (numv S a e 4).1 (numv S a e 4).2.1 4).2.1) h2
  rw [rnum4 h2 hS hF]
  simp only [Option.bind_some]
  rw [rnum4 h3 hS hF]
  simp only [Option.bind_some]
  rw [rnum1 (numv_le h3) hS hF]
  simp only [Option.bind_some]
  rw [rnum1 (numv_le (numv_le h3)) hS hF]
  simp only [Option.bind_some, w8n]
  rfl

theorem rtakeSs_loop {S : List UInt8} {n : Nat} (hS : S.length ≤ 1000000) (hn : n ≤ 8) (hF : 20 ≤ F) : ∀ (r m k a : Nat) (e : Int) (acc : List T_api_Shot), r < m → k + r = n → acc.length = k → a ≤ S.length →
    m_hindcastref08_Take_L63 F (n : Int) m (k : Int) (rref S a e) acc = some (rref S (shotsR S r a e).1 (shotsR S r a e).2.1, acc ++ (shotsR S r a e).2.2)
  | r, 0, k, a, e, acc, hm, _, _, _ => by omega
  | 0, m + 1, k, a, e, acc, hm, hk, hl, ha => by
    have hwn : IntKind.wrap .i64 (n : Int) = (n : Int) := wr_i64 ⟨by omega, by omega⟩
    rw [m_hindcastref08_Take_L63.eq_2, hwn, decide_eq_false (show ¬ (k : Int) < (n : Int) by omega), cond_false]
    simp only [shotsR, List.append_nil]
  | r + 1, m + 1, k, a, e, acc, hm, hk, hl, ha => by
    have hwn : IntKind.wrap .i64 (n : Int) = (n : Int) := wr_i64 ⟨by omega, by omega⟩
    have hw : IntKind.wrap .i64 ((k : Int) + 1) = ((k + 1 : Nat) : Int) := by rw [wr_i64 ⟨by omega, by omega⟩]; omega
    have ih := rtakeSs_loop hS hn hF r m (k + 1) (rdW S shW a e).1 (rdW S shW a e).2.1 (acc ++ [shOf (rdW S shW a e).2.2]) (by omega) (by omega) (by simp [hl]) (rdW_le ha)
    rw [m_hindcastref08_Take_L63.eq_2, hwn, decide_eq_true (show (k : Int) < (n : Int) by omega), cond_true]
    rw [rshR ha hS hF (fun o x => Option.bind (appI acc [x]) fun v100 => m_hindcastref08_Take_L63 F (n : Int) m (IntKind.wrap .i64 ((k : Int) + 1)) o v100)]
    rw [appI_of (by simp; omega)]
    simp only [Option.bind_some, hw, ih, shotsR, List.append_assoc]
    rfl

theorem rtake_of {S : List UInt8} (hS : S.length ≤ 100000) (hF : 20 ≤ F) : m_hindcastref08_Take F S = some (takev S) := by
  have hE : ∀ b e, (rref S b e).E = e := fun _ _ => rfl
  obtain ⟨m, hm⟩ : ∃ m, F = m + 3 := ⟨F - 3, by omega⟩
  have w1 : IntKind.wrap .i64 ((0 : Int) + 1) = 1 := wr_i64 ⟨by omega, by omega⟩
  have w2 : IntKind.wrap .i64 ((1 : Int) + 1) = 2 := wr_i64 ⟨by omega, by omega⟩
  have r1 : m_hindcastref02_Reader_Number F (T_hindcastref02_Reader.mk S 0 0) 8 = some (rref S (tkF S).1 (tkF S).2.1, (((tkF S).2.2 : Nat) : Int)) := rnum8 (a := 0) (e := 0) (by omega) (by omega) hF
  have r2 : m_hindcastref02_Reader_Number F (rref S (tkF S).1 (tkF S).2.1) 8 = some (rref S (tkD S).1 (tkD S).2.1, (((tkD S).2.2 : Nat) : Int)) := rnum8 (tkF_le S) (by omega) hF
  have r5 : m_hindcastref02_Reader_Var F (rref S (tkQ S).1 (tkQ S).2.1) = some (rref S (tkN S).1 (tkN S).2.1, (((tkN S).2.2 : Nat) : Int)) := var_q (tkQ_le S) (by omega) hF
  have r7 : m_hindcastref02_Reader_Number F (rref S (tkS S).1 (tkS S).2.1) 2 = some (rref S (tkA S).1 (tkA S).2.1, (((tkA S).2.2 : Nat) : Int)) := rnum2 (tkS_le S) (by omega) hF
  have r8 : m_hindcastref02_Reader_Number F (rref S (tkA S).1 (tkA S).2.1) 2 = some (rref S (tkB S).1 (tkB S).2.1, (((tkB S).2.2 : Nat) : Int)) := rnum2 (tkA_le S) (by omega) hF
  have hL1 : ∀ p q, m_hindcastref08_Take_L14 F F 0 (rref S (tkD S).1 (tkD S).2.1) (p, q) = some (rref S (tkQ S).1 (tkQ S).2.1, (plOf (tkP S).2.2, plOf (tkQ S).2.2)) := by
    intro p q
    have e : m_hindcastref08_Take_L14 F F = m_hindcastref08_Take_L14 F (m + 3) := by rw [← hm]
    rw [e]
    rw [m_hindcastref08_Take_L14.eq_2]
    simp only [show decide ((0 : Int) < 2) = true from rfl, show ((0 : Int) == 0) = true from rfl, cond_true, w1]
    rw [rplR (tkD_le S) (by omega) hF (fun o x => m_hindcastref08_Take_L14 F (m + 2) 1 o (x, q))]
    rw [m_hindcastref08_Take_L14.eq_2]
    simp only [show decide ((1 : Int) < 2) = true from rfl, show ((1 : Int) == 0) = false from rfl, show ((1 : Int) == 1) = true from rfl, cond_true, cond_false, w2]
    have hP : (rdW S plW (tkD S).1 (tkD S).2.1) = tkP S := rfl
    rw [hP]
    rw [rplR (tkP_le S) (by omega) hF (fun o x => m_hindcastref08_Take_L14 F (m + 1) 2 o (plOf (tkP S).2.2, x))]
    rw [m_hindcastref08_Take_L14.eq_2]
    rfl
  simp only [m_hindcastref08_Take, r1, r2, hL1, r5, Option.bind_some, hE]
  by_cases hn0 : (tkN S).2.1 = 0
  · unfold takev
    rw [hn0]
    simp only [show ((0 : Int) != 0) = false from rfl, cond_false]
    by_cases h8 : 8 < (tkN S).2.2
    · rw [decide_eq_true (show (8 : Int) < (((tkN S).2.2 : Nat) : Int) by omega), cond_true, if_pos h8]
      rfl
    · have hs := rtakeSs_loop (F := F) (S := S) (n := (tkN S).2.2) (by omega) (by omega) hF (tkN S).2.2 F 0 (tkN S).1 0 [] (by omega) (by omega) rfl (tkN_le S)
      have hts : shotsR S (tkN S).2.2 (tkN S).1 0 = tkS S := by unfold tkS; rw [hn0]
      rw [hts] at hs
      have hs' : m_hindcastref08_Take_L63 F (((tkN S).2.2 : Nat) : Int) F 0 (rref S (tkN S).1 0) [] = some (rref S (tkS S).1 (tkS S).2.1, (tkS S).2.2) := hs
      rw [decide_eq_false (show ¬ (8 : Int) < (((tkN S).2.2 : Nat) : Int) by omega), cond_false, if_neg h8]
      simp only [hs', Option.bind_some, r7, r8, hE]
      by_cases he : (tkB S).2.1 = 0
      · have hR : m_hindcastref02_Reader_Rest F (rref S (tkB S).1 0) = some (S.drop (tkB S).1) := rest_q (tkB_le S)
        have la := numv_lt (S := S) (a := (tkS S).1) (e := (tkS S).2.1) (k := 2) (by omega)
        have lb := numv_lt (S := S) (a := (tkA S).1) (e := (tkA S).2.1) (k := 2) (by omega)
        have wa : IntKind.wrap .u16 (((tkA S).2.2 : Nat) : Int) = (((tkA S).2.2 : Nat) : Int) := by
          have : (tkA S).2.2 < 256 ^ 2 := la
          exact wr_u16 ⟨by omega, by omega⟩
        have wb : IntKind.wrap .u16 (((tkB S).2.2 : Nat) : Int) = (((tkB S).2.2 : Nat) : Int) := by
          have : (tkB S).2.2 < 256 ^ 2 := lb
          exact wr_u16 ⟨by omega, by omega⟩
        have hst : T_api_State.mk (((tkF S).2.2 : Nat) : Int) (((tkD S).2.2 : Nat) : Int) (plOf (tkP S).2.2, plOf (tkQ S).2.2) (tkS S).2.2 ((((tkA S).2.2 : Nat) : Int), (((tkB S).2.2 : Nat) : Int)) = tkSt S := rfl
        have hlen : (tkSt S).Shots.length = (tkN S).2.2 := by
          show (tkS S).2.2.length = _
          unfold tkS
          exact shotsR_len
        have hc := rcheck_of (F := F) (s := tkSt S) (by omega) (by omega)
        rw [he]
        simp only [show ((0 : Int) != 0) = false from rfl, cond_false, hR, wa, wb, hst, hc, Option.bind_some, ne_eq, not_true_eq_false, if_false]
        by_cases hd : S.drop (tkB S).1 = []
        · rw [hd]
          simp only [beq_self_eq_true, Bool.not_true, cond_false, not_true_eq_false, false_or]
          cases hg : stGood (tkSt S)
          · rfl
          · rfl
        · rw [beq_eq_false_iff_ne.2 hd, if_pos (show ¬ (S.drop (tkB S).1 = []) ∨ stGood (tkSt S) = false from .inl hd)]
          rfl
      · rw [bne_iff_ne.2 he, cond_true, if_pos he]
        rfl
  · have h0 : (tkN S).2.2 = 0 := by unfold tkN at hn0 ⊢; exact readv_bad hn0
    have hs : (tkS S).2.1 = (tkN S).2.1 := by unfold tkS; exact (shotsR_err hn0).2
    have ha : (tkA S).2.1 = (tkN S).2.1 := by unfold tkA; rw [numv_err (by rw [hs]; exact hn0), hs]
    have hb : (tkB S).2.1 = (tkN S).2.1 := by unfold tkB; rw [numv_err (by rw [ha]; exact hn0), ha]
    unfold takev
    rw [bne_iff_ne.2 hn0, cond_true, if_neg (by omega), hb, if_pos hn0]
    rfl

end Go.Proofs.YtekplmhmppdpcaaDoor
