/-
  slices.Insert of one element, and slices.Delete of the first one, of the chapter's entries: what they leave.
-/
import Derived.Test.YthlnellnlhkphaaDoorTab
import Derived.Test.YthlnellnlhkphaaDoorMod
import Derived.Test.YthlnellnlhkphaaDoorEng4
import Derived.Test.YthlnellnlhkphaaDoorEng5
namespace Go.Proofs.YthlnellnlhkphaaDoor
open Go.Proofs.YthlnellnlhkphaaDoor.Eng Go.RowKit
set_option linter.unusedVariables false
set_option linter.unusedSimpArgs false
set_option maxHeartbeats 4000000
set_option maxRecDepth 20000

theorem ins_room {V : Type} (pr A D Y r : List V) (s : Nat) (hY : Y.length = s) (hr : s ≤ r.length) :
    (((pr ++ ((A ++ D) ++ r)).take (pr.length + (A.length + s)) ++ D ++ (pr ++ ((A ++ D) ++ r)).drop (pr.length + (A.length + s) + D.length)).take (pr.length + A.length) ++ Y ++
      ((pr ++ ((A ++ D) ++ r)).take (pr.length + (A.length + s)) ++ D ++ (pr ++ ((A ++ D) ++ r)).drop (pr.length + (A.length + s) + D.length)).drop (pr.length + A.length + s)) = pr ++ ((A ++ Y ++ D) ++ r.drop s) := by
  have h1 : (pr ++ ((A ++ D) ++ r)).take (pr.length + (A.length + s)) = (pr ++ A) ++ (D ++ r).take s := by
    rw [show pr ++ ((A ++ D) ++ r) = (pr ++ A) ++ (D ++ r) by simp, show pr.length + (A.length + s) = (pr ++ A).length + s by simp; omega, List.take_length_add_append]
  have h2 : (pr ++ ((A ++ D) ++ r)).drop (pr.length + (A.length + s) + D.length) = r.drop s := by
    rw [show pr ++ ((A ++ D) ++ r) = (pr ++ A ++ D) ++ r by simp, show pr.length + (A.length + s) + D.length = (pr ++ A ++ D).length + s by simp; omega, List.drop_length_add_append]
  have h3 : ((D ++ r).take s).length = s := by simp; omega
  rw [h1, h2]
  rw [show pr ++ A ++ (D ++ r).take s ++ D ++ r.drop s = (pr ++ A) ++ ((D ++ r).take s ++ (D ++ r.drop s)) by simp]
  rw [show pr.length + A.length = (pr ++ A).length by simp, List.take_left, List.drop_length_add_append, List.drop_left' h3]
  simp

theorem ins_grow {V : Type} (pr A Z D Y r : List V) (s : Nat) (hY : Y.length = s) (hZ : Z.length = s + D.length) :
    (((pr ++ ((A ++ Z) ++ r)).take (pr.length + A.length) ++ Y ++ (pr ++ ((A ++ Z) ++ r)).drop (pr.length + A.length + s)).take (pr.length + (A.length + s)) ++ D ++
      ((pr ++ ((A ++ Z) ++ r)).take (pr.length + A.length) ++ Y ++ (pr ++ ((A ++ Z) ++ r)).drop (pr.length + A.length + s)).drop (pr.length + (A.length + s) + D.length)) = pr ++ ((A ++ Y ++ D) ++ r) := by
  have h1 : (pr ++ ((A ++ Z) ++ r)).take (pr.length + A.length) = pr ++ A := by
    rw [show pr ++ ((A ++ Z) ++ r) = (pr ++ A) ++ (Z ++ r) by simp, show pr.length + A.length = (pr ++ A).length by simp, List.take_left]
  have h2 : (pr ++ ((A ++ Z) ++ r)).drop (pr.length + A.length + s) = Z.drop s ++ r := by
    rw [show pr ++ ((A ++ Z) ++ r) = (pr ++ A) ++ (Z ++ r) by simp, show pr.length + A.length + s = (pr ++ A).length + s by simp, List.drop_length_add_append, List.drop_append_of_le_length (by omega)]
  rw [h1, h2]
  rw [show pr.length + (A.length + s) = (pr ++ A ++ Y).length by simp; omega, List.take_left, List.drop_length_add_append, List.drop_left' (by simp; omega)]
  simp

theorem own_blk {e size : Nat} {a : Option Addr} {n cap : Nat} {cs : List Value} {B : List Blk} (h : Own e size a n cap cs B) (hn : 0 < n) :
    ∃ g pr r, a = some ⟨g, pr.length, none⟩ ∧ n ≤ cap ∧ cap ≤ maxLen ∧ (cs ++ r).length = cap * size ∧ B = [⟨g, pr ++ (cs ++ r), e, (0, 0)⟩] := by
  rcases h.2 with ⟨h1, _⟩ | h1
  · omega
  · exact h1

theorem allOne_entry (x : T_watch_entry) : allOne (c_T_watch_entry x) = true := rfl

theorem k_slices_Insert {F : Nat} {p0 : List T_watch_entry} {p0a0 : Option Addr} {p0n0 p0c0 : Nat} {p0B0 : List Blk} {p1 : Int} {p2 : List T_watch_entry} {p2a0 : Option Addr} {p2n0 p2c0 : Nat} {p2B0 : List Blk} {r0 : List T_watch_entry}
    (p0N0 : p0n0 = p0.length) (p0V0 : Own 73 5 p0a0 p0n0 p0c0 (flat c_T_watch_entry p0) p0B0) (p2N0 : p2n0 = p2.length) (p2V0 : Own 73 5 p2a0 p2n0 p2c0 (flat c_T_watch_entry p2) p2B0) (h : insM F p0 p1 p2 = some r0) :
    SpD Tryd.prog 72 [.slice p0a0 p0n0 p0c0, .int .i64 p1, .slice p2a0 p2n0 p2c0] (p0B0 ++ (p2B0 ++ [])) (fun w => True)
      (fun v D => ∃ (r0a0 : Option Addr) (r0n0 r0c0 : Nat) (r0B0 : List Blk), r0n0 = r0.length ∧ Own 73 5 r0a0 r0n0 r0c0 (flat c_T_watch_entry r0) r0B0 ∧ v = .slice r0a0 r0n0 r0c0 ∧ D = fun F => (r0B0 ++ F)) := by
  unfold insM at h
  split at h
  rotate_left
  · cases h
  rename_i hc
  obtain ⟨hc0, hc1, hc2, hc3⟩ := hc
  obtain rfl := Option.some.inj h
  clear h
  obtain ⟨i, rfl⟩ := Int.eq_ofNat_of_zero_le hc0
  subst p0N0; subst p2N0
  have hi : i ≤ p0.length := by omega
  simp only [Int.toNat_natCast]
  have hcap := vec_cap p0V0
  obtain ⟨vb, vpr, vr, rfl, vcap, vmax, vlen, rfl⟩ := own_blk p2V0 (by omega)
  have hfl : ∀ xs : List T_watch_entry, (flat c_T_watch_entry xs).length = xs.length * 5 := fun xs => flat_length c_T_watch_entry_len xs
  have ho : ∀ xs : List T_watch_entry, allOne (flat c_T_watch_entry xs) = true := allOne_flat allOne_entry
  refine sp_of_wc Tryd.func72 rfl Tryd.ntmps72 rfl rfl (fun w0 _ => ?_)
  repeat refine wc_seq ?_
  refine wc_region ?_
  refine wl_pure tt_ok rfl rfl ?_
  refine wl_nil ?_
  refine wx_then ?_
  repeat refine wc_seq ?_
  refine wc_region ?_
  refine wl_pure tt_ok rfl rfl ?_
  refine wl_pure tt_ok rfl rfl ?_
  have hq1 : cutI p0 (i : Int) (p0.length : Int) = some (p0.drop i) := by
    unfold cutI
    rw [if_pos ⟨by omega, by omega, by omega⟩]
    simp
  refine wl_cut (enc := c_T_watch_entry) tt_ok rfl rfl rfl rfl (vec_some p0V0) c_T_watch_entry_len hcap (.inr ⟨_, _, rfl, rfl⟩) (.inl ⟨rfl, rfl⟩) (.inl ⟨rfl, rfl⟩) (by intro h; first | rfl | cases h) (cut2 hq1 rfl hcap) hq1 rfl ?_
  intro a1 n1 c1 N1 H1 I1 O1 Z1
  refine wl_nil ?_
  refine wx_then ?_
  repeat refine wc_seq ?_
  refine wc_region ?_
  refine wl_pure tt_ok rfl rfl ?_
  refine wl_val (v := .int .i64 1) (by refine Eq.subst (motive := fun k : Nat => Val _ _ _ _ _ _ _ _ (.int .i64 (k : Int))) hc2 (val_len (xs := p2) tt_ok rfl rfl rfl)) rfl ?_
  refine wl_pure tt_ok rfl rfl ?_
  refine wl_nil ?_
  refine wx_then ?_
  repeat refine wc_seq ?_
  refine wc_region ?_
  refine wl_pure tt_ok rfl rfl ?_
  refine wl_pure (v := .bool false) tt_ok rfl rfl ?_
  refine wl_nil ?_
  refine wx_then ?_
  repeat refine wc_seq ?_
  refine wc_cond_false rfl ?_
  repeat refine wc_seq ?_
  refine wc_skip ?_
  refine wx_then ?_
  repeat refine wc_seq ?_
  refine wc_region ?_
  refine wl_pure tt_ok rfl rfl ?_
  refine wl_val (v := .int .i64 (p0.length : Int)) (val_len (xs := p0) tt_ok rfl rfl rfl) rfl ?_
  refine wl_pure tt_ok rfl rfl ?_
  refine wl_nil ?_
  refine wx_then ?_
  repeat refine wc_seq ?_
  refine wc_region ?_
  refine wl_pure tt_ok rfl rfl ?_
  refine wl_pure tt_ok rfl rfl ?_
  refine wl_pure (v := .bool ((i : Int) == (p0.length : Int))) tt_ok rfl rfl ?_
  refine wl_nil ?_
  refine wx_then ?_
  repeat refine wc_seq ?_
  refine wc_cond rfl (fun hd => ?_) (fun hd => ?_)
  · -- at the end: an append
    have hie : i = p0.length := by have h0 : (i : Int) = (p0.length : Int) := by simpa using hd
                                   omega
    subst hie
    have hap : appI p0 p2 = some (p0 ++ p2) := by
      unfold appI
      rw [if_pos (by omega)]
    repeat refine wc_seq ?_
    refine wc_region ?_
    refine wl_pure tt_ok rfl rfl ?_
    refine wl_pure tt_ok rfl rfl ?_
    refine wl_chg (chg_app (enc := c_T_watch_entry) (ys := p2) tt_ok rfl rfl rfl rfl rfl rfl rfl rfl p0V0 Sel.ha (Rds.of_vec p2V0) ⟨_, Sel.sa Sel.ha⟩ c_T_watch_entry_len (fun _ => rfl) rfl hap) rfl ?_
    rintro _ _ ⟨a', n', c', B', rfl, N', V', rfl⟩
    refine wl_pure tt_ok rfl rfl ?_
    refine wl_nil ?_
    refine wx_then ?_
    repeat refine wc_seq ?_
    refine wc_ret ?_
    refine wx_then_ret ?_
    have e1 : p0.take p0.length ++ p2 ++ p0.drop p0.length = p0 ++ p2 := by simp
    refine wx_spD tt_ok (.inl rfl) Tryd.results72 (Res.tmp rfl Res.nil) (D := fun F => B' ++ F) ⟨a', n', c', B', ?_, ?_, rfl, rfl⟩ (fun F => by simp) (pSub (pApp Sel.ha pNil))
    · rw [e1]; exact N'
    · rw [e1]; exact V'
  have hin : i < p0.length := by
    have : (i : Int) ≠ (p0.length : Int) := by simpa using hd
    omega
  obtain ⟨b, pr, r, rfl, -, hmax, hlen, rfl⟩ := own_blk p0V0 (by omega)
  have hA : (flat c_T_watch_entry (p0.take i)).length = i * 5 := by rw [hfl]; simp; omega
  have hD : (flat c_T_watch_entry (p0.drop i)).length = (p0.length - i) * 5 := by rw [hfl]; simp
  have hY : (flat c_T_watch_entry p2).length = 5 := by rw [hfl, hc2]
  have hAD : flat c_T_watch_entry p0 = flat c_T_watch_entry (p0.take i) ++ flat c_T_watch_entry (p0.drop i) := by rw [← flat_append, List.take_append_drop]
  have hrl : p0.length * 5 + r.length = p0c0 * 5 := by rw [← hlen, List.length_append, hfl]
  have hrd : ∀ A w L, Inv w0 A w L → ∀ C, (⟨b, C, 73, (0, 0)⟩ : Blk) ∈ L → ∀ (o : Nat) (S : List Value), (∀ j u, S[j]? = some u → C[o + j]? = some u) → ∀ j u, S[j]? = some u → w.cell? (Addr.add ⟨b, o, none⟩ j) = some u := by
    intro A w L hI C hm o S hS j u hj
    rw [Addr.add_lit, cell_of (hI.own _ hm)]
    simpa using hS j u hj
  have hrv : ∀ A w L, Inv w0 A w L → (⟨vb, vpr ++ (flat c_T_watch_entry p2 ++ vr), 73, (0, 0)⟩ : Blk) ∈ L → ∀ j u, (flat c_T_watch_entry p2)[j]? = some u → w.cell? (Addr.add ⟨vb, vpr.length, none⟩ j) = some u := by
    intro A w L hI hm j u hj
    rw [Addr.add_lit, cell_of (hI.own _ hm)]
    rw [List.getElem?_toArray, List.getElem?_append_right (by omega), show vpr.length + j - vpr.length = j by omega, List.getElem?_append_left (List.getElem?_eq_some_iff.1 hj).1]
    exact hj
  have hgD : ∀ j u, (flat c_T_watch_entry (p0.drop i))[j]? = some u → (pr ++ (flat c_T_watch_entry p0 ++ r))[pr.length + i * 5 + j]? = some u := by
    intro j u hj
    rw [hAD, List.getElem?_append_right (by omega), List.append_assoc, List.getElem?_append_right (by rw [hA]; omega), hA, show pr.length + i * 5 + j - pr.length - i * 5 = j by omega, List.getElem?_append_left (List.getElem?_eq_some_iff.1 hj).1]
    exact hj
  have hw1 : Value.int .i64 (IntKind.wrap .i64 ((p0.length : Int) + 1)) = .int .i64 ((p0.length + 1 : Nat) : Int) := by
    rw [fit_i64 (by omega)]; exact congrArg (Value.int .i64) (by omega)
  have hw2 : Value.int .i64 (IntKind.wrap .i64 ((i : Int) + 1)) = .int .i64 ((i + 1 : Nat) : Int) := by
    rw [fit_i64 (by omega)]; exact congrArg (Value.int .i64) (by omega)
  have hw3 : Value.int .i64 (IntKind.wrap .i64 (((p0.length + 1 : Nat) : Int) - (i : Int))) = .int .i64 ((p0.length + 1 - i : Nat) : Int) := by
    rw [fit_i64 (by omega)]; exact congrArg (Value.int .i64) (by omega)
  repeat refine wc_seq ?_
  refine wc_skip ?_
  refine wx_then ?_
  repeat refine wc_seq ?_
  refine wc_region ?_
  refine wl_pure tt_ok rfl rfl ?_
  refine wl_pure tt_ok rfl rfl ?_
  refine wl_pure2 tt_ok rfl hw1 rfl ?_
  refine wl_pure tt_ok rfl rfl ?_
  refine wl_val (v := .int .i64 (p0c0 : Int)) (val_cap tt_ok rfl rfl) rfl ?_
  refine wl_pure (v := .bool (decide ((p0c0 : Int) < ((p0.length + 1 : Nat) : Int)))) tt_ok rfl rfl ?_
  refine wl_nil ?_
  refine wx_then ?_
  repeat refine wc_seq ?_
  refine wc_cond rfl (fun hd => ?_) (fun hd => ?_)
  · have hg : p0c0 < p0.length + 1 := by
      have := of_decide_eq_true hd
      omega
    have hVi : Own 73 5 (some ⟨b, pr.length, none⟩) i p0c0 (flat c_T_watch_entry (p0.take i)) [⟨b, pr ++ (flat c_T_watch_entry p0 ++ r), 73, (0, 0)⟩] := by
      refine ⟨hA, .inr ⟨b, pr, flat c_T_watch_entry (p0.drop i) ++ r, rfl, by omega, hmax, ?_, ?_⟩⟩
      · rw [← List.append_assoc, ← hAD]; exact hlen
      · rw [hAD, List.append_assoc]
    repeat refine wc_seq ?_
    refine wc_region ?_
    refine wl_pure tt_ok rfl rfl ?_
    refine wl_pure tt_ok rfl rfl ?_
    refine wl_val (v := .slice (some ⟨b, pr.length, none⟩) i p0c0) (val_cutB (i := 0) (j := i) tt_ok rfl rfl rfl (.inl ⟨rfl, rfl⟩) (.inr ⟨_, _, rfl, rfl⟩) (by omega) (by omega) (by omega) (by omega) (by omega) (by omega)) rfl ?_
    refine wl_pure tt_ok rfl rfl ?_
    refine wl_pure tt_ok rfl rfl ?_
    refine wl_pure2 tt_ok rfl hw1 rfl ?_
    refine wl_pure tt_ok rfl rfl ?_
    refine wl_pure2 tt_ok rfl hw3 rfl ?_
    refine wl_chg (chg_appZ (enc := c_T_watch_entry) (y := ⟨0, ⟨0, false⟩, ⟨0, false⟩⟩) (m := p0.length + 1 - i) (xs := p0.take i) tt_ok rfl rfl rfl rfl rfl rfl rfl rfl (by omega) (by simp; omega) (by omega) (by omega) (by omega) (Rds.of_vec hVi) ⟨_, Sel.ha⟩ c_T_watch_entry_len rfl) rfl ?_
    rintro _ _ ⟨a', n', c', B', rfl, N', V', rfl⟩
    have hn' : n' = p0.length + 1 := by rw [N']; simp; omega
    subst hn'
    obtain ⟨b2, pr2, r2, rfl, hcap2, hmax2, hlen2, rfl⟩ := own_blk V' (by omega)
    refine wl_pure tt_ok rfl rfl ?_
    refine wl_sub (L' := [⟨b2, pr2 ++ (flat c_T_watch_entry (p0.take i ++ List.replicate (p0.length + 1 - i) ⟨0, ⟨0, false⟩, ⟨0, false⟩⟩) ++ r2), 73, (0, 0)⟩, ⟨b, pr ++ (flat c_T_watch_entry p0 ++ r), 73, (0, 0)⟩, ⟨vb, vpr ++ (flat c_T_watch_entry p2 ++ vr), 73, (0, 0)⟩]) ⟨[], by simp⟩ ?_
    have hZ : (flat c_T_watch_entry (List.replicate (p0.length + 1 - i) (⟨0, ⟨0, false⟩, ⟨0, false⟩⟩ : T_watch_entry))).length = 5 + (flat c_T_watch_entry (p0.drop i)).length := by rw [hfl, hD]; simp; omega
    have hl2 : (pr2 ++ (flat c_T_watch_entry (p0.take i ++ List.replicate (p0.length + 1 - i) (⟨0, ⟨0, false⟩, ⟨0, false⟩⟩ : T_watch_entry)) ++ r2)).length = pr2.length + c' * 5 := by rw [List.length_append, hlen2]
    refine wl_nil ?_
    refine wx_then ?_
    repeat refine wc_seq ?_
    refine wc_region ?_
    refine wl_pure tt_ok rfl rfl ?_
    refine wl_pure tt_ok rfl rfl ?_
    refine wl_val (v := .slice (some ⟨b2, pr2.length + i * 5, none⟩) (p0.length + 1 - i) (c' - i)) (val_cutB (i := i) (j := p0.length + 1) tt_ok rfl rfl rfl (.inr ⟨_, _, rfl, rfl⟩) (.inl ⟨rfl, rfl⟩) (by omega) (by omega) (by omega) rfl rfl rfl) rfl ?_
    refine wl_pure tt_ok rfl rfl ?_
    refine wl_chg (chg_copyR (k := 1) (S := flat c_T_watch_entry p2) tt_ok rfl rfl rfl rfl (by rw [hc2]; exact Nat.min_eq_left (by omega)) Upd.here (by rw [hY]) (fun w hI => hrv _ w _ hI (by simp)) (by rw [hl2]; omega) rfl (ho _)) rfl ?_
    rintro _ _ ⟨rfl, rfl⟩
    refine wl_nil ?_
    refine wx_then ?_
    repeat refine wc_seq ?_
    refine wc_k2 (Ls := [⟨b, pr ++ (flat c_T_watch_entry p0 ++ r), 73, (0, 0)⟩]) [8] [8] [0, 0, 0, 6, 15, 0, 0, 96, 255] [0, 1, 2, 3, 4, 5, 6, 7, 8] (by kernel_rfl) (by kernel_rfl) (by kernel_rfl) ?_
    have sb : ∀ (x y z : Blk), ∃ R, [x, y, z].Perm ([y] ++ R) := fun x y z => ⟨[x, z], by simpa using List.Perm.swap y x [z]⟩
    refine k_val rfl rfl rfl (sb _ _ _) (stepV_ok tt_ok rfl) rfl ?_
    refine k_val rfl rfl rfl (sb _ _ _) (stepV_ok tt_ok rfl) rfl ?_
    refine k_val rfl rfl rfl (sb _ _ _) (stepV_ok tt_ok rfl) rfl ?_
    refine k_val (v := .int .i64 ((i + 1 : Nat) : Int)) rfl rfl rfl (sb _ _ _) (by rw [← hw2]; exact stepV_ok tt_ok rfl) rfl ?_
    refine k_val (v := .slice (some ⟨b2, pr2.length + (i + 1) * 5, none⟩) (p0.length - i) (c' - (i + 1))) rfl rfl rfl (sb _ _ _) (val_cutB (i := i + 1) (j := p0.length + 1) tt_ok rfl rfl rfl (.inr ⟨_, _, rfl, rfl⟩) (.inl ⟨rfl, rfl⟩) (by omega) (by omega) (by omega) rfl (by omega) rfl) rfl ?_
    refine k_val rfl rfl rfl (sb _ _ _) (stepV_ok tt_ok rfl) rfl ?_
    refine k_val rfl rfl rfl (sb _ _ _) (stepV_ok tt_ok rfl) rfl ?_
    refine k_val (v := .slice (some ⟨b, pr.length + i * 5, none⟩) (p0.length - i) (p0c0 - i)) rfl rfl rfl (sb _ _ _) (val_cutB (i := i) (j := p0.length) tt_ok rfl rfl rfl (.inr ⟨_, _, rfl, rfl⟩) (.inl ⟨rfl, rfl⟩) (by omega) (by omega) (by omega) rfl rfl rfl) rfl ?_
    refine k_chg rfl rfl rfl (chg_copyR (k := p0.length - i) (S := flat c_T_watch_entry (p0.drop i)) tt_ok rfl rfl rfl rfl (Nat.min_self _) Upd.here hD (fun w hI => hrd _ w _ hI _ (List.Mem.tail _ (List.Mem.head _)) _ _ hgD) (by simp only [List.length_append, List.length_take, List.length_drop, hY, hfl, List.length_replicate, Nat.one_mul] at hl2 ⊢; omega) rfl (ho _)) rfl (.inl rfl) ?_
    rintro _ _ ⟨rfl, rfl⟩
    refine k_end (by kernel_rfl) ?_
    refine wx_then ?_
    repeat refine wc_seq ?_
    refine wc_region ?_
    refine wl_pure tt_ok rfl rfl ?_
    refine wl_pure tt_ok rfl rfl ?_
    refine wl_nil ?_
    refine wx_then ?_
    repeat refine wc_seq ?_
    refine wc_ret ?_
    refine wx_then_ret ?_
    have e1 := ins_grow pr2 (flat c_T_watch_entry (p0.take i)) (flat c_T_watch_entry (List.replicate (p0.length + 1 - i) (⟨0, ⟨0, false⟩, ⟨0, false⟩⟩ : T_watch_entry))) (flat c_T_watch_entry (p0.drop i)) (flat c_T_watch_entry p2) r2 5 hY hZ
    rw [hA, hD, ← flat_append, ← flat_append, ← flat_append] at e1
    refine wx_spD tt_ok (.inl rfl) Tryd.results72 (Res.tmp rfl Res.nil) (D := fun F => [(⟨b2, _, 73, (0, 0)⟩ : Blk)] ++ F) ⟨some ⟨b2, pr2.length, none⟩, p0.length + 1, c', [⟨b2, _, 73, (0, 0)⟩], ?_, ⟨?_, .inr ⟨b2, pr2, r2, rfl, by omega, hmax2, ?_, ?_⟩⟩, rfl, rfl⟩ (fun F => by simp) ⟨_, List.Perm.refl _⟩
    · simp; omega
    · rw [hfl]; simp; omega
    · rw [List.length_append, hfl]
      rw [List.length_append, hfl] at hlen2
      simp only [List.length_append, List.length_take, List.length_drop, List.length_replicate] at hlen2 ⊢
      omega
    · rw [← e1]
      simp only [Nat.add_mul, Nat.one_mul, Nat.add_assoc]
  have hg : p0.length + 1 ≤ p0c0 := by
    have := of_decide_eq_false hd
    omega
  repeat refine wc_seq ?_
  refine wc_skip ?_
  refine wx_then ?_
  repeat refine wc_seq ?_
  refine wc_region ?_
  refine wl_sub (L' := [⟨b, pr ++ (flat c_T_watch_entry p0 ++ r), 73, (0, 0)⟩, ⟨vb, vpr ++ (flat c_T_watch_entry p2 ++ vr), 73, (0, 0)⟩]) ⟨[], by simp⟩ ?_
  refine wl_pure tt_ok rfl rfl ?_
  refine wl_pure tt_ok rfl rfl ?_
  refine wl_pure tt_ok rfl rfl ?_
  refine wl_pure2 tt_ok rfl hw1 rfl ?_
  refine wl_val (v := .slice (some ⟨b, pr.length, none⟩) (p0.length + 1) p0c0) (val_cutB (i := 0) (j := p0.length + 1) tt_ok rfl rfl rfl (.inl ⟨rfl, rfl⟩) (.inr ⟨_, _, rfl, rfl⟩) (by omega) (by omega) (by omega) (by omega) (by omega) (by omega)) rfl ?_
  refine wl_pure tt_ok rfl rfl ?_
  refine wl_nil ?_
  refine wx_then ?_
  repeat refine wc_seq ?_
  refine wc_region ?_
  refine wl_pure tt_ok rfl rfl ?_
  refine wl_pure tt_ok rfl rfl ?_
  refine wl_pure tt_ok rfl rfl ?_
  refine wl_pure tt_ok rfl rfl ?_
  refine wl_pure2 tt_ok rfl hw2 rfl ?_
  refine wl_val (v := .slice (some ⟨b, pr.length + (i + 1) * 5, none⟩) (p0.length - i) (p0c0 - (i + 1))) (val_cutB (i := i + 1) (j := p0.length + 1) tt_ok rfl rfl rfl (.inr ⟨_, _, rfl, rfl⟩) (.inl ⟨rfl, rfl⟩) (by omega) (by omega) (by omega) rfl (by omega) rfl) rfl ?_
  have hne : ∀ A w, Inv w0 A w [⟨b, pr ++ (flat c_T_watch_entry p0 ++ r), 73, (0, 0)⟩, ⟨vb, vpr ++ (flat c_T_watch_entry p2 ++ vr), 73, (0, 0)⟩] → vb ≠ b := by
    intro A w hI h0
    have := hI.nodup
    simp [ids, h0] at this
  refine wl_know (R := vb ≠ b) (fun w hI => hne _ w hI) (fun hvb => ?_)
  refine wl_val (v := .bool false) (val_overlaps tt_ok Tryd.func89 (by kernel_rfl) (by kernel_rfl) (by kernel_rfl) (tR := 4) (t := 54) (by kernel_rfl) rfl rfl rfl rfl (List.Mem.tail _ (List.Mem.head _)) (List.Mem.head _) hvb (by intro h0; have := congrArg List.length h0; simp only [List.length_append, List.length_nil, hfl] at this; omega)) rfl ?_
  refine wl_pure (v := .bool true) tt_ok rfl rfl ?_
  refine wl_nil ?_
  refine wx_then ?_
  repeat refine wc_seq ?_
  refine wc_cond_true rfl ?_
  have hl0 : (pr ++ (flat c_T_watch_entry p0 ++ r)).length = pr.length + p0c0 * 5 := by rw [List.length_append, hlen]
  repeat refine wc_seq ?_
  refine wc_k2 (Ls := [⟨b, pr ++ (flat c_T_watch_entry p0 ++ r), 73, (0, 0)⟩]) [8] [8] [0, 0, 0, 6, 15, 0, 0, 96, 255] [0, 1, 2, 3, 4, 5, 6, 7, 8] (by kernel_rfl) (by kernel_rfl) (by kernel_rfl) ?_
  have sb : ∀ (x y : Blk), ∃ R, [x, y].Perm ([x] ++ R) := fun x y => ⟨[y], List.Perm.refl _⟩
  refine k_val rfl rfl rfl (sb _ _) (stepV_ok tt_ok rfl) rfl ?_
  refine k_val rfl rfl rfl (sb _ _) (stepV_ok tt_ok rfl) rfl ?_
  refine k_val rfl rfl rfl (sb _ _) (stepV_ok tt_ok rfl) rfl ?_
  refine k_val (v := .int .i64 ((i + 1 : Nat) : Int)) rfl rfl rfl (sb _ _) (by rw [← hw2]; exact stepV_ok tt_ok rfl) rfl ?_
  refine k_val (v := .slice (some ⟨b, pr.length + (i + 1) * 5, none⟩) (p0.length - i) (p0c0 - (i + 1))) rfl rfl rfl (sb _ _) (val_cutB (i := i + 1) (j := p0.length + 1) tt_ok rfl rfl rfl (.inr ⟨_, _, rfl, rfl⟩) (.inl ⟨rfl, rfl⟩) (by omega) (by omega) (by omega) rfl (by omega) rfl) rfl ?_
  refine k_val rfl rfl rfl (sb _ _) (stepV_ok tt_ok rfl) rfl ?_
  refine k_val rfl rfl rfl (sb _ _) (stepV_ok tt_ok rfl) rfl ?_
  refine k_val (v := .slice (some ⟨b, pr.length + i * 5, none⟩) (p0.length + 1 - i) (p0c0 - i)) rfl rfl rfl (sb _ _) (val_cutB (i := i) (j := p0.length + 1) tt_ok rfl rfl rfl (.inr ⟨_, _, rfl, rfl⟩) (.inl ⟨rfl, rfl⟩) (by omega) (by omega) (by omega) rfl rfl rfl) rfl ?_
  refine k_chg rfl rfl rfl (chg_copyR (k := p0.length - i) (S := flat c_T_watch_entry (p0.drop i)) tt_ok rfl rfl rfl rfl (Nat.min_eq_right (by omega)) Upd.here hD (fun w hI => hrd _ w _ hI _ (List.Mem.head _) _ _ hgD) (by rw [hl0]; omega) rfl (ho _)) rfl (.inl rfl) ?_
  rintro _ _ ⟨rfl, rfl⟩
  refine k_end (by kernel_rfl) ?_
  refine wx_then ?_
  repeat refine wc_seq ?_
  refine wc_region ?_
  refine wl_pure tt_ok rfl rfl ?_
  refine wl_pure tt_ok rfl rfl ?_
  refine wl_val (v := .slice (some ⟨b, pr.length + i * 5, none⟩) (p0.length + 1 - i) (p0c0 - i)) (val_cutB (i := i) (j := p0.length + 1) tt_ok rfl rfl rfl (.inr ⟨_, _, rfl, rfl⟩) (.inl ⟨rfl, rfl⟩) (by omega) (by omega) (by omega) rfl rfl rfl) rfl ?_
  refine wl_pure tt_ok rfl rfl ?_
  refine wl_chg (chg_copyR (k := 1) (S := flat c_T_watch_entry p2) tt_ok rfl rfl rfl rfl (by rw [hc2]; exact Nat.min_eq_left (by omega)) Upd.here (by rw [hY]) (fun w hI => hrv _ w _ hI (by simp)) (by simp only [List.length_append, List.length_take, List.length_drop, hfl] at hl0 ⊢; omega) rfl (ho _)) rfl ?_
  rintro _ _ ⟨rfl, rfl⟩
  refine wl_nil ?_
  refine wx_then ?_
  repeat refine wc_seq ?_
  refine wc_region ?_
  refine wl_pure tt_ok rfl rfl ?_
  refine wl_pure tt_ok rfl rfl ?_
  refine wl_nil ?_
  refine wx_then ?_
  repeat refine wc_seq ?_
  refine wc_ret ?_
  refine wx_then_ret ?_
  have e1 := ins_room pr (flat c_T_watch_entry (p0.take i)) (flat c_T_watch_entry (p0.drop i)) (flat c_T_watch_entry p2) r 5 hY (by omega)
  rw [hA, hD, ← hAD, ← flat_append, ← flat_append] at e1
  refine wx_spD tt_ok (.inl rfl) Tryd.results72 (Res.tmp rfl Res.nil) (D := fun F => [(⟨b, _, 73, (0, 0)⟩ : Blk)] ++ F) ⟨some ⟨b, pr.length, none⟩, p0.length + 1, p0c0, [⟨b, _, 73, (0, 0)⟩], ?_, ⟨?_, .inr ⟨b, pr, r.drop 5, rfl, by omega, hmax, ?_, ?_⟩⟩, rfl, rfl⟩ (fun F => by simp) ⟨_, List.Perm.refl _⟩
  · simp; omega
  · rw [hfl]; simp; omega
  · rw [List.length_append, hfl, List.length_drop]
    simp only [List.length_append, List.length_take, List.length_drop]
    omega
  · rw [← e1]
    simp only [Nat.add_mul, Nat.one_mul, Nat.add_assoc]

theorem k_slices_Delete {F : Nat} {p0 : List T_watch_entry} {p0a0 : Option Addr} {p0n0 p0c0 : Nat} {p0B0 : List Blk} {p1 p2 : Int} {r0 : List T_watch_entry}
    (p0N0 : p0n0 = p0.length) (p0V0 : Own 73 5 p0a0 p0n0 p0c0 (flat c_T_watch_entry p0) p0B0) (h : delM F p0 p1 p2 = some r0) :
    SpD Tryd.prog 73 [.slice p0a0 p0n0 p0c0, .int .i64 p1, .int .i64 p2] (p0B0 ++ []) (fun w => True)
      (fun v D => ∃ (r0a0 : Option Addr) (r0n0 r0c0 : Nat) (r0B0 : List Blk), r0n0 = r0.length ∧ Own 73 5 r0a0 r0n0 r0c0 (flat c_T_watch_entry r0) r0B0 ∧ v = .slice r0a0 r0n0 r0c0 ∧ D = fun F => (r0B0 ++ F)) := by
  unfold delM at h
  split at h
  rotate_left
  · cases h
  rename_i hc
  obtain ⟨rfl, rfl, hc2, hc3⟩ := hc
  obtain rfl := Option.some.inj h
  clear h
  subst p0N0
  have hcap := vec_cap p0V0
  have hfl : ∀ xs : List T_watch_entry, (flat c_T_watch_entry xs).length = xs.length * 5 := fun xs => flat_length c_T_watch_entry_len xs
  have ho : ∀ xs : List T_watch_entry, allOne (flat c_T_watch_entry xs) = true := allOne_flat allOne_entry
  have hV := p0V0
  obtain ⟨b, pr, r, rfl, -, hmax, hlen, rfl⟩ := own_blk p0V0 (by omega)
  have hA : (flat c_T_watch_entry (p0.take 1)).length = 5 := by rw [hfl]; simp; omega
  have hD : (flat c_T_watch_entry (p0.drop 1)).length = (p0.length - 1) * 5 := by rw [hfl]; simp
  have hAD : flat c_T_watch_entry p0 = flat c_T_watch_entry (p0.take 1) ++ flat c_T_watch_entry (p0.drop 1) := by rw [← flat_append, List.take_append_drop]
  have hl0 : (pr ++ (flat c_T_watch_entry p0 ++ r)).length = pr.length + p0c0 * 5 := by rw [List.length_append, hlen]
  have hrl : p0.length * 5 + r.length = p0c0 * 5 := by rw [← hlen, List.length_append, hfl]
  have hgD : ∀ j u, (flat c_T_watch_entry (p0.drop 1))[j]? = some u → (pr ++ (flat c_T_watch_entry p0 ++ r))[pr.length + 5 + j]? = some u := by
    intro j u hj
    rw [hAD, List.getElem?_append_right (by omega), List.append_assoc, List.getElem?_append_right (by rw [hA]; omega), hA, show pr.length + 5 + j - pr.length - 5 = j by omega, List.getElem?_append_left (List.getElem?_eq_some_iff.1 hj).1]
    exact hj
  refine sp_of_wc Tryd.func73 rfl Tryd.ntmps73 rfl rfl (fun w0 _ => ?_)
  refine wc_sub (L' := [⟨b, pr ++ (flat c_T_watch_entry p0 ++ r), 73, (0, 0)⟩]) ⟨[], by simp⟩ ?_
  repeat refine wc_seq ?_
  refine wc_region ?_
  refine wl_pure tt_ok rfl rfl ?_
  refine wl_nil ?_
  refine wx_then ?_
  repeat refine wc_seq ?_
  refine wc_region ?_
  refine wl_pure tt_ok rfl rfl ?_
  refine wl_pure tt_ok rfl rfl ?_
  refine wl_pure tt_ok rfl rfl ?_
  refine wl_pure tt_ok rfl rfl ?_
  refine wl_val (v := .int .i64 (p0.length : Int)) (val_len (xs := p0) tt_ok rfl rfl rfl) rfl ?_
  have hq1 : cut3I p0 0 1 (p0.length : Int) = some ((p0.take 1).drop 0) := by
    unfold cut3I cutI
    rw [if_pos ⟨by omega, by omega⟩, if_pos ⟨by omega, by omega, by omega⟩]
    rfl
  refine wl_cut (enc := c_T_watch_entry) tt_ok rfl rfl rfl rfl (vec_some hV) c_T_watch_entry_len hcap (.inr ⟨_, _, rfl, rfl⟩) (.inr ⟨_, _, rfl, rfl⟩) (.inr ⟨_, _, rfl, rfl⟩) (by intro h; first | rfl | cases h) (cut3b hq1 rfl hcap) (cut3a hq1) rfl ?_
  intro a1 n1 c1 N1 H1 I1 O1 Z1
  refine wl_nil ?_
  refine wx_then ?_
  repeat refine wc_seq ?_
  refine wc_region ?_
  refine wl_pure tt_ok rfl rfl ?_
  refine wl_pure tt_ok rfl rfl ?_
  refine wl_pure (v := .bool false) tt_ok rfl rfl ?_
  refine wl_nil ?_
  refine wx_then ?_
  repeat refine wc_seq ?_
  refine wc_cond_false rfl ?_
  repeat refine wc_seq ?_
  refine wc_skip ?_
  refine wx_then ?_
  repeat refine wc_seq ?_
  refine wc_region ?_
  refine wl_pure tt_ok rfl rfl ?_
  refine wl_val (v := .int .i64 (p0.length : Int)) (val_len (xs := p0) tt_ok rfl rfl rfl) rfl ?_
  refine wl_pure tt_ok rfl rfl ?_
  refine wl_nil ?_
  refine wx_then ?_
  repeat refine wc_seq ?_
  refine wc_k2 (Ls := [⟨b, pr ++ (flat c_T_watch_entry p0 ++ r), 73, (0, 0)⟩]) [6, 7] [6, 7] [0, 0, 3, 0, 0, 24, 63, 127] [0, 1, 2, 3, 4, 5, 6, 7] (by kernel_rfl) (by kernel_rfl) (by kernel_rfl) ?_
  have sb : ∀ (x : Blk), ∃ R, [x].Perm ([x] ++ R) := fun x => ⟨[], List.Perm.refl _⟩
  refine k_val rfl rfl rfl (sb _) (stepV_ok tt_ok rfl) rfl ?_
  refine k_val rfl rfl rfl (sb _) (stepV_ok tt_ok rfl) rfl ?_
  refine k_val (v := .slice (some ⟨b, pr.length, none⟩) 0 p0c0) rfl rfl rfl (sb _) (val_cutB (i := 0) (j := 0) tt_ok rfl rfl rfl (.inl ⟨rfl, rfl⟩) (.inr ⟨_, _, rfl, rfl⟩) (by omega) (by omega) (by omega) (by omega) (by omega) (by omega)) rfl ?_
  refine k_val rfl rfl rfl (sb _) (stepV_ok tt_ok rfl) rfl ?_
  refine k_val rfl rfl rfl (sb _) (stepV_ok tt_ok rfl) rfl ?_
  refine k_val (v := .slice (some ⟨b, pr.length + 5, none⟩) (p0.length - 1) (p0c0 - 1)) rfl rfl rfl (sb _) (val_cutB (i := 1) (j := p0.length) tt_ok rfl rfl rfl (.inr ⟨_, _, rfl, rfl⟩) (.inl ⟨rfl, rfl⟩) (by omega) (by omega) (by omega) (by omega) (by omega) (by omega)) rfl ?_
  refine k_chg rfl rfl rfl (chg_appR (S := flat c_T_watch_entry (p0.drop 1)) tt_ok rfl rfl rfl rfl (by omega) Upd.here hD (fun w hI j u hj => by
      rw [Addr.add_lit, cell_of (hI.own _ (List.Mem.head _))]
      simpa using hgD j u hj) (by rw [hl0]; omega) rfl (ho _)) rfl (.inl rfl) ?_
  rintro _ _ ⟨rfl, rfl⟩
  refine k_chg rfl rfl rfl (Chg.of_val (stepV_ok tt_ok rfl)) rfl (.inl rfl) ?_
  rintro _ _ ⟨rfl, rfl⟩
  refine k_end (by kernel_rfl) ?_
  refine wx_then ?_
  repeat refine wc_seq ?_
  refine wc_region ?_
  refine wl_pure tt_ok rfl rfl ?_
  refine wl_pure tt_ok rfl rfl ?_
  refine wl_val (v := .int .i64 ((p0.length - 1 : Nat) : Int)) (by refine Eq.subst (motive := fun k : Nat => Val _ _ _ _ _ _ _ _ (.int .i64 (k : Int))) (List.length_drop (i := 1) (l := p0)) (val_len (xs := p0.drop 1) tt_ok rfl rfl (by simp))) rfl ?_
  refine wl_pure tt_ok rfl rfl ?_
  refine wl_val (v := .slice (some ⟨b, pr.length + (p0.length - 1) * 5, none⟩) 1 (p0c0 - (p0.length - 1))) (val_cutB (i := p0.length - 1) (j := p0.length) tt_ok rfl rfl rfl (.inr ⟨_, _, rfl, rfl⟩) (.inr ⟨_, _, rfl, rfl⟩) (by omega) (by omega) (by omega) rfl (by omega) rfl) rfl ?_
  have e0 : (pr ++ (flat c_T_watch_entry p0 ++ r)).take (pr.length + 0 * 5) ++ flat c_T_watch_entry (p0.drop 1) ++ (pr ++ (flat c_T_watch_entry p0 ++ r)).drop (pr.length + 0 * 5 + (p0.length - 1) * 5) = (pr ++ flat c_T_watch_entry (p0.drop 1)) ++ (flat c_T_watch_entry p0 ++ r).drop ((p0.length - 1) * 5) := by
    rw [show pr.length + 0 * 5 = pr.length by omega, List.take_left, List.drop_length_add_append]
  have e1 : (pr ++ flat c_T_watch_entry (p0.drop 1)).length = pr.length + (p0.length - 1) * 5 := by rw [List.length_append, hD]
  have e2 : ((flat c_T_watch_entry p0 ++ r).drop ((p0.length - 1) * 5)).drop (1 * 5) = r := by
    rw [List.drop_drop, show (p0.length - 1) * 5 + 1 * 5 = (flat c_T_watch_entry p0).length by rw [hfl]; omega, List.drop_left]
  refine wl_chg0 (chg_clearR tt_ok rfl rfl rfl (by omega) rfl (by decide) Upd.here (by rw [e0, List.length_append, e1, List.length_drop, List.length_append, hfl]; omega) rfl rfl) ?_
  rintro _ _ rfl
  refine wl_nil ?_
  refine wx_then ?_
  repeat refine wc_seq ?_
  refine wc_region ?_
  refine wl_pure tt_ok rfl rfl ?_
  refine wl_pure tt_ok rfl rfl ?_
  refine wl_nil ?_
  refine wx_then ?_
  repeat refine wc_seq ?_
  refine wc_ret ?_
  refine wx_spD tt_ok (.inl rfl) Tryd.results73 (Res.tmp rfl Res.nil) (D := fun F => [(⟨b, _, 73, (0, 0)⟩ : Blk)] ++ F) ⟨some ⟨b, pr.length, none⟩, 0 + (p0.length - 1), p0c0, [⟨b, _, 73, (0, 0)⟩], ?_, ⟨?_, .inr ⟨b, pr, c_T_watch_entry ⟨0, ⟨0, false⟩, ⟨0, false⟩⟩ ++ r, rfl, by omega, hmax, ?_, ?_⟩⟩, rfl, rfl⟩ (fun F => by simp) ⟨_, List.Perm.refl _⟩
  · simp
  · rw [hfl]; simp
  · rw [List.length_append, hD, List.length_append, c_T_watch_entry_len]
    omega
  · rw [e0, ← e1, List.take_left, List.drop_length_add_append, e2]
    simp [repO, c_T_watch_entry]

end Go.Proofs.YthlnellnlhkphaaDoor
