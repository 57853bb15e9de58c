/-
  Each function computes what its model says. Printed by a program of this claim's own.
-/
import Derived.Test.YtkekgagekgadmaaDoorTab
import Derived.Test.YtkekgagekgadmaaDoorMod
import Derived.Test.YtkekgagekgadmaaDoorWalk3
namespace Go.Proofs.YtkekgagekgadmaaDoor
open Go.Proofs.YtkekgagekgadmaaDoor.Eng
set_option linter.unusedVariables false
set_option linter.unusedSimpArgs false
set_option maxHeartbeats 4000000
set_option maxRecDepth 20000

theorem k_hindcastlaw26_RollbackTrue {F : Nat} {p0 : T_hindcastlaw26_Game} {p0a0 : Option Addr} {p0n0 p0c0 : Nat} {p0a1 : Option Addr} {p0n1 p0c1 : Nat} {p1 : (List Int)} {p1a0 : Option Addr} {p1n0 p1c0 : Nat} {r0 : Bool} (p0N0 : p0n0 = p0.Mine.length) (p0H0 : p0n0 ≤ p0c0) (p0N1 : p0n1 = p0.Theirs.length) (p0H1 : p0n1 ≤ p0c1) (p1N0 : p1n0 = p1.length) (p1H0 : p1n0 ≤ p1c0) (h : m_hindcastlaw26_RollbackTrue F p0 p1 = some r0) :
    Pf Tryd.prog 5 [.agg #[.int .u64 p0.Seed, .int .u8 p0.Player, .int .u8 p0.Window, .slice p0a0 p0n0 p0c0, .slice p0a1 p0n1 p0c1], .slice p1a0 p1n0 p1c0] (fun w => Rds w [] [] p0a0 (flat (e1 .u8) p0.Mine) ∧ Rds w [] [] p0a1 (flat (e1 .u8) p0.Theirs) ∧ Rds w [] [] p1a0 (flat (e1 .u8) p1) ∧ Rds w [] [] (some ⟨0, 0, none⟩) (flat (fun _ : Unit => gl_state_playerBounds) [()]) ∧ Rds w [] [] (some ⟨1, 0, none⟩) (flat (fun _ : Unit => gl_state_shotBounds) [()])) (.bool r0) := by
  unfold m_hindcastlaw26_RollbackTrue at h
  refine pf_of_wc Tryd.func5 rfl Tryd.ntmps5 rfl rfl (fun w0 hR => ?_)
  obtain ⟨p0S0, p0S1, p1S0, G0S, G1S⟩ := hR
  refine wc_seq (wc_region (wl_box rfl rfl rfl (fun b2 => (wP rfl rfl (wl_nil (wx_then (wc_seq (wc_seq (wc_region (wP (v := .pointer (some ⟨b2, 3, none⟩)) rfl rfl (wl_val (v := .slice p0a0 p0n0 p0c0) (val_load tt_ok rfl (mH) rfl) rfl (wl_val (v := .int .i64 (p0.Mine.length : Int)) (val_len tt_ok rfl rfl p0N0) rfl (wP (v := .bool (decide ((100 : Int) < (p0.Mine.length : Int)))) rfl rfl (wP rfl rfl ?_))))))))))))))
  replace h := bsome h; obtain ⟨v26, h, hg26⟩ := h
  refine wl_split (t := 21) rfl (fun hc => ?_) (fun hc => ?_)
  · replace h := ct hc h
    refine wl_skip rfl rfl (wl_skip rfl rfl (wl_skip rfl rfl (wl_skip rfl rfl ?_)))
    obtain rfl := sI h
    have h := hg26; clear hg26
    refine wP (v := .bool true) rfl rfl (wP rfl rfl ?_)
    replace h := bsome h; obtain ⟨v31, h, hg31⟩ := h
    replace h := ct rfl h
    refine wl_skip rfl rfl (wl_skip rfl rfl (wl_skip rfl rfl ?_))
    obtain rfl := sI h
    have h := hg31; clear hg31
    refine wP (v := .bool true) rfl rfl (wl_nil (wx_then ?_))
    replace h := ct rfl h
    refine wc_cond_true rfl ?_
    refine wc_seq (wc_region ?_)
    replace h := bsome h; obtain ⟨v32, x32, h⟩ := h
    refine wl_cq Tryd.call6 rfl rfl rfl (q_pf (k_hindcastlaw26_works x32) (fun w hI => ⟨(Rds.call G0S pNil rsub_nil) w hI, (Rds.call G1S pNil rsub_nil) w hI⟩)) rfl ?_
    refine wP rfl rfl (wl_nil (wx_then (wc_ret (wx_then_ret ?_))))
    obtain rfl := sI h
    exact wx_pf tt_ok (.inl rfl) Tryd.results5 (Res.tmp rfl Res.nil) rfl
  replace h := cf hc h
  refine wl_run rfl (wP (v := .pointer (some ⟨b2, 4, none⟩)) rfl rfl (wl_run rfl (wl_val (v := .slice p0a1 p0n1 p0c1) (val_load tt_ok rfl (mH) rfl) rfl (wl_run rfl (wl_val (v := .int .i64 (p0.Theirs.length : Int)) (val_len tt_ok rfl rfl p0N1) rfl (wl_run rfl (wP (v := .bool (decide ((100 : Int) < (p0.Theirs.length : Int)))) rfl rfl ?_)))))))
  obtain rfl := sI h
  have h := hg26; clear hg26
  refine wP (v := .bool (decide ((100 : Int) < (p0.Theirs.length : Int)))) rfl rfl (wP rfl rfl ?_)
  replace h := bsome h; obtain ⟨v31, h, hg31⟩ := h
  refine wl_split (t := 27) rfl (fun hc => ?_) (fun hc => ?_)
  · replace h := ct hc h
    refine wl_skip rfl rfl (wl_skip rfl rfl (wl_skip rfl rfl ?_))
    obtain rfl := sI h
    have h := hg31; clear hg31
    refine wP (v := .bool true) rfl rfl (wl_nil (wx_then ?_))
    replace h := ct rfl h
    refine wc_cond_true rfl ?_
    refine wc_seq (wc_region ?_)
    replace h := bsome h; obtain ⟨v32, x32, h⟩ := h
    refine wl_cq Tryd.call6 rfl rfl rfl (q_pf (k_hindcastlaw26_works x32) (fun w hI => ⟨(Rds.call G0S pNil rsub_nil) w hI, (Rds.call G1S pNil rsub_nil) w hI⟩)) rfl ?_
    refine wP rfl rfl (wl_nil (wx_then (wc_ret (wx_then_ret ?_))))
    obtain rfl := sI h
    exact wx_pf tt_ok (.inl rfl) Tryd.results5 (Res.tmp rfl Res.nil) rfl
  replace h := cf hc h
  refine wl_run rfl (wP rfl rfl (wl_run rfl (wl_val (v := .int .i64 (p1.length : Int)) (val_len tt_ok rfl rfl p1N0) rfl (wl_run rfl (wP (v := .bool (decide ((200 : Int) < (p1.length : Int)))) rfl rfl ?_)))))
  obtain rfl := sI h
  have h := hg31; clear hg31
  refine wP (v := .bool (decide ((200 : Int) < (p1.length : Int)))) rfl rfl (wl_nil (wx_then (wc_cond rfl (fun hc => ?_) (fun hc => ?_))))
  · replace h := ct hc h
    refine wc_seq (wc_region ?_)
    replace h := bsome h; obtain ⟨v32, x32, h⟩ := h
    refine wl_cq Tryd.call6 rfl rfl rfl (q_pf (k_hindcastlaw26_works x32) (fun w hI => ⟨(Rds.call G0S pNil rsub_nil) w hI, (Rds.call G1S pNil rsub_nil) w hI⟩)) rfl ?_
    refine wP rfl rfl (wl_nil (wx_then (wc_ret (wx_then_ret ?_))))
    obtain rfl := sI h
    exact wx_pf tt_ok (.inl rfl) Tryd.results5 (Res.tmp rfl Res.nil) rfl
  replace h := cf hc h
  refine wc_skip (wx_then (wc_seq (wc_region (wP (v := .pointer (some ⟨b2, 2, none⟩)) rfl rfl (wl_val (v := .int .u8 p0.Window) (val_load tt_ok rfl (mH) rfl) rfl (wP (v := .int .u8 (Int.tmod p0.Window 12)) rfl rfl (wP (v := .int .i64 (IntKind.wrap .i64 (Int.tmod p0.Window 12))) rfl rfl (wP (v := .int .i64 (IntKind.wrap .i64 ((1 : Int) + (IntKind.wrap .i64 (Int.tmod p0.Window 12))))) rfl rfl (wP rfl rfl (wl_nil (wx_then (wc_seq (wc_k2 (Ls := (⟨b2, [.int .u64 p0.Seed, .int .u8 p0.Player, .int .u8 p0.Window, .slice p0a0 p0n0 p0c0, .slice p0a1 p0n1 p0c1], 25, (0, 0)⟩ :: [])) [2, 7, 8] [7, 8] [0, 1, 3, 0, 8, 24, 0, 127, 255] [0, 1, 3, 4, 5, 6, 2, 7, 8] (by kernel_rfl) (by kernel_rfl) (by kernel_rfl) ?_)))))))))))))
  refine k_val (v := .pointer (some ⟨b2, 0, none⟩)) rfl rfl rfl (pSub (pH pNil)) (stepV_ok tt_ok rfl) rfl ?_
  refine k_val (v := .int .u64 p0.Seed) rfl rfl rfl (pSub (pH pNil)) (val_load tt_ok rfl (mH) rfl) rfl ?_
  refine k_val (v := .pointer (some ⟨b2, 1, none⟩)) rfl rfl rfl (pSub (pH pNil)) (stepV_ok tt_ok rfl) rfl ?_
  refine k_val (v := .int .u8 p0.Player) rfl rfl rfl (pSub (pH pNil)) (val_load tt_ok rfl (mH) rfl) rfl ?_
  refine k_val (v := .int .u8 (Int.tmod p0.Player 2)) rfl rfl rfl (pSub (pH pNil)) (stepV_ok tt_ok rfl) rfl ?_
  refine k_val rfl rfl rfl (pSub (pH pNil)) (stepV_ok tt_ok rfl) rfl ?_
  replace h := bsome h; obtain ⟨v40, x40, h⟩ := h
  refine k_cs rfl rfl rfl Tryd.call8 rfl rfl rfl (s_sp (k_state_Start x40) pNil (fun _ _ => trivial)) rfl (.inr (by rintro _ _ ⟨_, ⟨_, _, _, _, _, _, rfl, rfl⟩, rfl⟩; exact ⟨_, (pCons (sA hC) pNil)⟩)) ?_
  rintro _ _ ⟨_, ⟨v40a0, v40n0, v40c0, v40B0, v40N0, v40V0, rfl, rfl⟩, rfl⟩
  replace h := bsome h; obtain ⟨v45, x45, h⟩ := h
  rcases v45 with _ | v45s
  · replace h := poN h
    refine k_cs rfl rfl rfl Tryd.call7 rfl rfl rfl (s_sp (k_rollback_New_none (p0 := v40) v40N0 (vec_cap v40V0) (own_Z v40V0) x45) pNil (fun w hI => ⟨(Rds.call (Rds.of_vec v40V0) pNil ⟨_, hA'⟩) w hI, (Rds.call G0S pNil rsub_nil) w hI, (Rds.call G1S pNil rsub_nil) w hI⟩)) rfl (.inl rfl) ?_
    rintro _ _ ⟨_, ⟨rfl, rfl⟩, rfl⟩
    refine k_chg rfl rfl rfl (Chg.of_val (stepV_ok tt_ok rfl)) rfl (.inl rfl) ?_
    rintro _ _ ⟨rfl, rfl⟩
    refine k_end (by kernel_rfl) ?_
    refine wx_then (wc_seq (wc_seq (wc_region (wP rfl rfl (wP (v := .bool true) rfl rfl (wl_nil (wx_then (wc_cond_true rfl (wc_seq (wc_region (wP rfl rfl (wl_nil (wx_then (wc_ret (wx_then_ret ?_)))))))))))))))
    obtain rfl := sI h
    exact wx_pf tt_ok (.inl rfl) Tryd.results5 (Res.tmp rfl Res.nil) rfl
  replace h := poS h
  refine k_cs rfl rfl rfl Tryd.call7 rfl rfl rfl (s_sp (k_rollback_New (p0 := v40) v40N0 (vec_cap v40V0) (own_Z v40V0) x45) pNil (fun w hI => ⟨(Rds.call (Rds.of_vec v40V0) pNil ⟨_, hA'⟩) w hI, (Rds.call G0S pNil rsub_nil) w hI, (Rds.call G1S pNil rsub_nil) w hI⟩)) rfl (.inl rfl) ?_
  rintro _ _ ⟨_, ⟨zv, zav, zbw, v45sa0, v45sn0, v45sc0, v45sB0, v45sa1, v45sn1, v45sc1, v45sB1, v45s_4a0, v45s_4n0, v45s_4c0, v45s_4B0, v45s_5g0, v45s_5P0, v45sN0, v45sV0, v45sN1, v45sV1, v45s_4N0, v45s_4V0, v45s_5G0, v45s_5A0, rfl, rfl⟩, rfl⟩
  refine k_chg rfl rfl rfl (Chg.of_val (stepV_ok tt_ok rfl)) rfl (.inl rfl) ?_
  rintro _ _ ⟨rfl, rfl⟩
  refine k_end (by kernel_rfl) ?_
  refine wx_then (wc_seq (wc_seq (wc_region (wP rfl rfl (wP (v := .bool false) rfl rfl (wl_nil (wx_then (wc_cond_false rfl (wc_skip (wx_then (wc_seq (wc_region ?_))))))))))))
  iterate 3 refine wP rfl rfl ?_
  refine wl_nil (wx_then (wc_seq (wc_seq (wc_region (wP rfl rfl (wl_nil (wx_then (wc_block ?_))))))))
  replace h := bsome h; obtain ⟨o29, h, hl29⟩ := h
  refine wc_loop (fun m E L => ∃ (zm : Int) (zl : Int) (zz : Int) (zy : Int) (zr : Int) (zs : Int) (zn : Int) (zo : Int) (zp : (T_api_Player × T_api_Player)) (zb : (List T_api_Shot)) (zk : (Int × Int)) (zc : (List Int)) (zaa : Int) (zd : (List Int)) (zab : Int) (zar : Int) (zh : (Arr T_ring_place 14)) (zak : Option Addr) (zai : Nat) (zal : Nat) (zaj : List Blk) (zat : Option Addr) (zam : Nat) (zau : Nat) (zas : List Blk) (zbi : Option Addr) (zbe : Nat) (zbj : Nat) (zbh : List Blk) (zcb : List (T_ring_place × G)) (zcg : List Blk), m_hindcastlaw26_RollbackTrue_L28 F p0 p1 m zm zl zz zy zr zs zn zo zp zb zk zc zaa zd zab zar zh = some o29 ∧ zai = zb.length ∧ Own 80 6 zak zai zal (flat c_T_api_Shot zb) zaj ∧ zam = zc.length ∧ Own 40 1 zat zam zau (flat (e1 .u8) zc) zas ∧ zbe = zd.length ∧ Own 40 1 zbi zbe zbj (flat (e1 .u8) zd) zbh ∧ zh.1 = unG zcb ∧ AllP sh_T_ring_place c_T_api_Shot zcg zcb ∧ E = [(1, .slice p1a0 p1n0 p1c0), (2, .pointer (some ⟨b2, 0, none⟩)), (4, .bool false), (5, .int .i64 (IntKind.wrap .i64 ((1 : Int) + (IntKind.wrap .i64 (Int.tmod p0.Window 12))))), (6, .pointer (some ⟨zv, 0, none⟩)), (7, .int .i64 zm), (8, .int .i64 zl), (9, .int .i64 zz), (10, .int .i64 zy)] ∧ L = (⟨b2, [.int .u64 p0.Seed, .int .u8 p0.Player, .int .u8 p0.Window, .slice p0a0 p0n0 p0c0, .slice p0a1 p0n1 p0c1], 25, (0, 0)⟩ :: (⟨zv, (.int .u8 zr :: .int .i64 zs :: .int .u64 zn :: .int .u64 zo :: pl14 zp [.slice zak zai zal, .int .u16 zk.1, .int .u16 zk.2, .slice zat zam zau, .pointer (some ⟨zav, 0, none⟩), .pointer (some ⟨zbw, 0, none⟩)]), 55, (0, 0)⟩ :: (⟨zav, [.int .u64 zaa, .slice zbi zbe zbj, .int .u8 zab], 94, (0, 0)⟩ :: (⟨zbw, ([.int .i64 zar] ++ flat cg_T_ring_place zcb), 99, (0, 0)⟩ :: (zaj ++ (zas ++ (zbh ++ (zcg ++ []))))))))) F ⟨(0 : Int), (0 : Int), (0 : Int), (0 : Int), v45s.1.player, v45s.1.window, v45s.1.sure.Frame, v45s.1.sure.Seed, v45s.1.sure.Players, v45s.1.sure.Shots, v45s.1.sure.Score, v45s.1.own, v45s.2.1.first_, v45s.2.1.l, v45s.2.1.last, v45s.2.2.size, v45s.2.2.places, v45sa0, v45sn0, v45sc0, v45sB0, v45sa1, v45sn1, v45sc1, v45sB1, v45s_4a0, v45s_4n0, v45s_4c0, v45s_4B0, v45s_5g0, v45s_5P0, h, v45sN0, v45sV0, v45sN1, v45sV1, v45s_4N0, v45s_4V0, v45s_5G0, v45s_5A0, rfl, rfl⟩ (agree_cons rfl (agree_cons rfl (agree_cons rfl (agree_cons rfl (agree_cons rfl (agree_cons rfl (agree_cons rfl (agree_cons rfl (agree_cons rfl agree_nil))))))))) (pSub (pCons (sC (sA (sA (sC (sA (sC (sA (sA hC)))))))) (pH (pCons (sA (sA hC)) (pCons (sA (sA (sA hC))) (pA (pA (pA (pA pNil))))))))) ?_
  clear h
  rintro m29 _ _ ⟨zm, zl, zz, zy, zr, zs, zn, zo, zp, zb, zk, zc, zaa, zd, zab, zar, zh, zak, zai, zal, zaj, zat, zam, zau, zas, zbi, zbe, zbj, zbh, zcb, zcg, h, zt, zu, zw, zx, zan, zao, zax, zaw, rfl, rfl⟩
  rcases m29 with _ | m29
  · rw [m_hindcastlaw26_RollbackTrue_L28.eq_1] at h; cases h
  rw [m_hindcastlaw26_RollbackTrue_L28.eq_2] at h
  refine wc_seq (wc_seq (wc_region ?_))
  iterate 2 refine wP rfl rfl ?_
  refine wl_val (v := .int .i64 (p1.length : Int)) (val_len tt_ok rfl rfl p1N0) rfl ?_
  refine wP (v := .bool (decide (zy < (p1.length : Int)))) rfl rfl (wl_nil (wx_then (wc_cond rfl (fun hc => ?_) (fun hc => ?_))))
  · replace h := ct hc h
    refine wc_skip (wx_then (wc_seq (wc_block (wc_seq (wc_region ?_)))))
    iterate 2 refine wP rfl rfl ?_
    replace h := bsome h; obtain ⟨v56, x56, h⟩ := h
    refine wl_val (v := .pointer (some ((adOf p1a0).add (zy.toNat * 1 + 0)))) (val_ix (enc := (e1 .u8)) tt_ok rfl rfl rfl rfl p1N0 p1S0 (e1_len _) rfl x56) rfl ?_
    refine wl_val (v := .int .u8 v56) (val_le (enc := (e1 .u8)) (xs := p1) tt_ok rfl p1S0 rsub_nil (e1_len _) x56 rfl) rfl ?_
    refine wP (v := .int .u8 (IntKind.wrap .u8 (Int.tdiv v56 4))) rfl rfl (wP (v := .int .i64 (IntKind.wrap .i64 (IntKind.wrap .u8 (Int.tdiv v56 4)))) rfl rfl (wP rfl rfl (wl_nil (wx_then (wc_seq (wc_seq (wc_region ?_)))))))
    iterate 2 refine wP rfl rfl ?_
    replace h := bsome h; obtain ⟨v62, x62, h⟩ := h
    refine wl_val (v := .pointer (some ((adOf p1a0).add (zy.toNat * 1 + 0)))) (val_ix (enc := (e1 .u8)) tt_ok rfl rfl rfl rfl p1N0 p1S0 (e1_len _) rfl x62) rfl ?_
    refine wl_val (v := .int .u8 v62) (val_le (enc := (e1 .u8)) (xs := p1) tt_ok rfl p1S0 rsub_nil (e1_len _) x62 rfl) rfl ?_
    refine wP (v := .int .u8 (Int.tmod v62 4)) rfl rfl (wl_nil (wx_then (wc_block (wc_seq (wc_region (wP (v := .bool ((Int.tmod v62 4) == (0 : Int))) rfl rfl (wP rfl rfl (wl_nil (wx_then (wc_cond rfl (fun hc => ?_) (fun hc => ?_)))))))))))
    · replace h := ct hc h
      refine wc_seq (wc_region (wP rfl rfl (wP (v := .pointer (some ⟨b2, 3, none⟩)) rfl rfl (wl_val (v := .slice p0a0 p0n0 p0c0) (val_load tt_ok rfl (mH) rfl) rfl (wP rfl rfl ?_)))))
      replace h := bsome h; obtain ⟨v102, x102, h⟩ := h
      refine wl_cq Tryd.call10 rfl rfl rfl (q_pf (k_hindcastlaw26_at (p0 := p0.Mine) p0N0 p0H0 x102) (Rds.call p0S0 pNil rsub_nil)) rfl ?_
      replace h := bsome h; obtain ⟨⟨zf, v103⟩, x103, h⟩ := h; try dsimp only at h
      refine wl_cs Tryd.call9 rfl rfl rfl (s_sp (k_rollback_Engine_Local (p0 := (T_rollback_Engine.mk zr zs (T_api_State.mk zn zo zp zb zk) zc)) (p0_4 := (T_queue_Queue.mk zaa zd zab)) (p0_5 := (T_ring_Ring.mk zar zh)) zt zu zw zx zan zao zax zaw x103) (pCons (sC hC) (pApp (sC (sC (sC hA'))) (pApp (sC (sC (sC hA'))) (pCons (sC hC) (pApp (sC (sC hA')) (pCons (sC hC) (pApp (sC hA') pNil))))))) (fun _ _ => trivial)) rfl ?_
      rintro _ _ ⟨_, ⟨zcp, zct, zcr, zcn, zcq, zcu, zcs, zco, zch, zcj, zci, zck, rfl, rfl⟩, rfl⟩
      refine wP rfl rfl (wl_nil (wx_then (wc_seq (wc_seq (wc_region (wP rfl rfl (wP (v := .bool (v103 == (0 : Int))) rfl rfl ?_)))))))
      iterate 2 refine wP rfl rfl ?_
      refine wP (v := .int .i64 (IntKind.wrap .i64 (zl - zm))) rfl rfl (wP rfl rfl (wP (v := .bool (decide ((IntKind.wrap .i64 (zl - zm)) < (IntKind.wrap .i64 ((1 : Int) + (IntKind.wrap .i64 (Int.tmod p0.Window 12))))))) rfl rfl (wP (v := .bool ((v103 == (0 : Int)) != (decide ((IntKind.wrap .i64 (zl - zm)) < (IntKind.wrap .i64 ((1 : Int) + (IntKind.wrap .i64 (Int.tmod p0.Window 12)))))))) rfl rfl (wl_nil (wx_then (wc_cond rfl (fun hc => ?_) (fun hc => ?_)))))))
      · replace h := ct hc h
        refine wc_seq (wc_region (wP rfl rfl (wl_nil (wx_then (wc_ret (wx_then_ret (wx_block_ret (wx_then_ret (wx_block_ret (wx_then_ret ?_))))))))))
        obtain rfl := Option.some.inj h
        have h := hl29; clear hl29; try dsimp only [orE_l, orE_r] at h
        refine wx_then_ret (wx_block_ret (wx_then_ret ?_))
        obtain rfl := sI h
        exact wx_pf tt_ok (.inl rfl) Tryd.results5 (Res.tmp rfl Res.nil) rfl
      replace h := cf hc h
      refine wc_skip (wx_then (wc_seq (wc_region (wP rfl rfl (wP (v := .bool (v103 == (0 : Int))) rfl rfl (wl_nil (wx_then (wc_cond rfl (fun hc => ?_) (fun hc => ?_)))))))))
      · replace h := ct hc h
        refine wc_region (wP rfl rfl (wP (v := .int .i64 (IntKind.wrap .i64 (zl + (1 : Int)))) rfl rfl (wP rfl rfl (wl_nil (wx_block (wx_then (wc_seq (wc_seq (wc_region (wP rfl rfl ?_))))))))))
        replace h := bsome h; obtain ⟨v150, x150, h⟩ := h
        refine wl_cq Tryd.call16 rfl rfl rfl (q_rd (k_rollback_Engine_C (p0 := zf) (p0_4 := (T_queue_Queue.mk zaa zd zab)) (p0_5 := (T_ring_Ring.mk zar zh)) zch zcj zci zck zan zao zax zaw x150) (pH (pA (pA (pH (pA (pH (pA pNil))))))) (fun _ _ => trivial)) rfl ?_
        refine wP rfl rfl (wP (v := .int .u64 (IntKind.wrap .u64 zm)) rfl rfl (wP (v := .bool (v150 != (IntKind.wrap .u64 zm))) rfl rfl (wP rfl rfl ?_)))
        replace h := bsome h; obtain ⟨v160, h, hg160⟩ := h
        refine wl_split (t := 154) rfl (fun hc => ?_) (fun hc => ?_)
        · replace h := ct hc h
          refine wl_skip rfl rfl (wl_skip rfl rfl (wl_skip rfl rfl (wl_skip rfl rfl (wl_skip rfl rfl ?_))))
          obtain rfl := sI h
          have h := hg160; clear hg160
          refine wP (v := .bool true) rfl rfl (wP rfl rfl ?_)
          replace h := bsome h; obtain ⟨v167, h, hg167⟩ := h
          replace h := ct rfl h
          refine wl_skip rfl rfl (wl_skip rfl rfl (wl_skip rfl rfl (wl_skip rfl rfl (wl_skip rfl rfl ?_))))
          obtain rfl := sI h
          have h := hg167; clear hg167
          refine wP (v := .bool true) rfl rfl (wP rfl rfl ?_)
          replace h := bsome h; obtain ⟨v174, h, hg174⟩ := h
          replace h := ct rfl h
          refine wl_skip rfl rfl (wl_skip rfl rfl (wl_skip rfl rfl (wl_skip rfl rfl (wl_skip rfl rfl ?_))))
          obtain rfl := sI h
          have h := hg174; clear hg174
          refine wP (v := .bool true) rfl rfl (wl_nil (wx_then ?_))
          replace h := ct rfl h
          refine wc_cond_true rfl ?_
          refine wc_seq (wc_region (wP rfl rfl (wl_nil (wx_then (wc_ret (wx_then_ret (wx_block_ret (wx_then_ret ?_))))))))
          obtain rfl := Option.some.inj h
          have h := hl29; clear hl29; try dsimp only [orE_l, orE_r] at h
          refine wx_then_ret (wx_block_ret (wx_then_ret ?_))
          obtain rfl := sI h
          exact wx_pf tt_ok (.inl rfl) Tryd.results5 (Res.tmp rfl Res.nil) rfl
        replace h := cf hc h
        refine wl_run rfl (wP rfl rfl ?_)
        replace h := bsome h; obtain ⟨v156, x156, h⟩ := h
        refine wl_run rfl (wl_cq Tryd.call17 rfl rfl rfl (q_rd (k_rollback_Engine_T (p0 := zf) (p0_4 := (T_queue_Queue.mk zaa zd zab)) (p0_5 := (T_ring_Ring.mk zar zh)) zch zcj zci zck zan zao zax zaw x156) (pH (pA (pA (pH (pA (pH (pA pNil))))))) (fun _ _ => trivial)) rfl (wl_run rfl (wP rfl rfl (wl_run rfl (wP (v := .int .u64 (IntKind.wrap .u64 (IntKind.wrap .i64 (zl + (1 : Int))))) rfl rfl (wl_run rfl (wP (v := .bool (v156 != (IntKind.wrap .u64 (IntKind.wrap .i64 (zl + (1 : Int)))))) rfl rfl ?_)))))))
        obtain rfl := sI h
        have h := hg160; clear hg160
        refine wP (v := .bool (v156 != (IntKind.wrap .u64 (IntKind.wrap .i64 (zl + (1 : Int)))))) rfl rfl (wP rfl rfl ?_)
        replace h := bsome h; obtain ⟨v167, h, hg167⟩ := h
        refine wl_split (t := 161) rfl (fun hc => ?_) (fun hc => ?_)
        · replace h := ct hc h
          refine wl_skip rfl rfl (wl_skip rfl rfl (wl_skip rfl rfl (wl_skip rfl rfl (wl_skip rfl rfl ?_))))
          obtain rfl := sI h
          have h := hg167; clear hg167
          refine wP (v := .bool true) rfl rfl (wP rfl rfl ?_)
          replace h := bsome h; obtain ⟨v174, h, hg174⟩ := h
          replace h := ct rfl h
          refine wl_skip rfl rfl (wl_skip rfl rfl (wl_skip rfl rfl (wl_skip rfl rfl (wl_skip rfl rfl ?_))))
          obtain rfl := sI h
          have h := hg174; clear hg174
          refine wP (v := .bool true) rfl rfl (wl_nil (wx_then ?_))
          replace h := ct rfl h
          refine wc_cond_true rfl ?_
          refine wc_seq (wc_region (wP rfl rfl (wl_nil (wx_then (wc_ret (wx_then_ret (wx_block_ret (wx_then_ret ?_))))))))
          obtain rfl := Option.some.inj h
          have h := hl29; clear hl29; try dsimp only [orE_l, orE_r] at h
          refine wx_then_ret (wx_block_ret (wx_then_ret ?_))
          obtain rfl := sI h
          exact wx_pf tt_ok (.inl rfl) Tryd.results5 (Res.tmp rfl Res.nil) rfl
        replace h := cf hc h
        refine wl_run rfl (wP rfl rfl ?_)
        replace h := bsome h; obtain ⟨v163, x163, h⟩ := h
        refine wl_run rfl (wl_cq Tryd.call19 rfl rfl rfl (q_rd (k_rollback_Engine_Known (p0 := zf) (p0_4 := (T_queue_Queue.mk zaa zd zab)) (p0_5 := (T_ring_Ring.mk zar zh)) zch zcj zci zck zan zao zax zaw x163) (pH (pA (pA (pH (pA (pH (pA pNil))))))) (fun _ _ => trivial)) rfl (wl_run rfl (wP rfl rfl (wl_run rfl (wP (v := .int .u64 (IntKind.wrap .u64 zz)) rfl rfl (wl_run rfl (wP (v := .bool (v163 != (IntKind.wrap .u64 zz))) rfl rfl ?_)))))))
        obtain rfl := sI h
        have h := hg167; clear hg167
        refine wP (v := .bool (v163 != (IntKind.wrap .u64 zz))) rfl rfl (wP rfl rfl ?_)
        replace h := bsome h; obtain ⟨v174, h, hg174⟩ := h
        refine wl_split (t := 168) rfl (fun hc => ?_) (fun hc => ?_)
        · replace h := ct hc h
          refine wl_skip rfl rfl (wl_skip rfl rfl (wl_skip rfl rfl (wl_skip rfl rfl (wl_skip rfl rfl ?_))))
          obtain rfl := sI h
          have h := hg174; clear hg174
          refine wP (v := .bool true) rfl rfl (wl_nil (wx_then ?_))
          replace h := ct rfl h
          refine wc_cond_true rfl ?_
          refine wc_seq (wc_region (wP rfl rfl (wl_nil (wx_then (wc_ret (wx_then_ret (wx_block_ret (wx_then_ret ?_))))))))
          obtain rfl := Option.some.inj h
          have h := hl29; clear hl29; try dsimp only [orE_l, orE_r] at h
          refine wx_then_ret (wx_block_ret (wx_then_ret ?_))
          obtain rfl := sI h
          exact wx_pf tt_ok (.inl rfl) Tryd.results5 (Res.tmp rfl Res.nil) rfl
        replace h := cf hc h
        refine wl_run rfl (wP rfl rfl (wl_run rfl (wP rfl rfl (wl_run rfl (wP (v := .int .i64 (IntKind.wrap .i64 ((IntKind.wrap .i64 (zl + (1 : Int))) - zm))) rfl rfl (wl_run rfl (wP rfl rfl (wl_run rfl (wP (v := .bool (decide ((IntKind.wrap .i64 ((1 : Int) + (IntKind.wrap .i64 (Int.tmod p0.Window 12)))) < (IntKind.wrap .i64 ((IntKind.wrap .i64 (zl + (1 : Int))) - zm))))) rfl rfl ?_)))))))))
        obtain rfl := sI h
        have h := hg174; clear hg174
        refine wP (v := .bool (decide ((IntKind.wrap .i64 ((1 : Int) + (IntKind.wrap .i64 (Int.tmod p0.Window 12)))) < (IntKind.wrap .i64 ((IntKind.wrap .i64 (zl + (1 : Int))) - zm))))) rfl rfl (wl_nil (wx_then (wc_cond rfl (fun hc => ?_) (fun hc => ?_))))
        · replace h := ct hc h
          refine wc_seq (wc_region (wP rfl rfl (wl_nil (wx_then (wc_ret (wx_then_ret (wx_block_ret (wx_then_ret ?_))))))))
          obtain rfl := Option.some.inj h
          have h := hl29; clear hl29; try dsimp only [orE_l, orE_r] at h
          refine wx_then_ret (wx_block_ret (wx_then_ret ?_))
          obtain rfl := sI h
          exact wx_pf tt_ok (.inl rfl) Tryd.results5 (Res.tmp rfl Res.nil) rfl
        replace h := cf hc h
        refine wc_skip (wx_then (wc_seq (wc_k2 (Ls := (⟨zv, (.int .u8 zf.player :: .int .i64 zf.window :: .int .u64 zf.sure.Frame :: .int .u64 zf.sure.Seed :: pl14 zf.sure.Players [.slice zcp zct zcr, .int .u16 zf.sure.Score.1, .int .u16 zf.sure.Score.2, .slice zcq zcu zcs, .pointer (some ⟨zav, 0, none⟩), .pointer (some ⟨zbw, 0, none⟩)]), 55, (0, 0)⟩ :: (zcn ++ (zco ++ (⟨zav, [.int .u64 zaa, .slice zbi zbe zbj, .int .u8 zab], 94, (0, 0)⟩ :: (zbh ++ (⟨b2, [.int .u64 p0.Seed, .int .u8 p0.Player, .int .u8 p0.Window, .slice p0a0 p0n0 p0c0, .slice p0a1 p0n1 p0c1], 25, (0, 0)⟩ :: []))))))) [5, 10, 11] [] [0, 1, 3, 7, 15, 31, 15, 15, 15, 15, 1023, 2047, 4095, 8191] [0, 1, 2, 3, 4, 6, 7, 8, 9, 5, 10, 11, 12, 13] (by kernel_rfl) (by kernel_rfl) (by kernel_rfl) ?_)))
        refine k_val rfl rfl rfl (pSub (pH (pA (pA (pH (pA (pCons (sC (sA hC)) pNil))))))) (stepV_ok tt_ok rfl) rfl ?_
        refine k_val (v := .int .i64 (Int.tmod (IntKind.wrap .i64 (IntKind.wrap .u8 (Int.tdiv v56 4))) 3)) rfl rfl rfl (pSub (pH (pA (pA (pH (pA (pCons (sC (sA hC)) pNil))))))) (stepV_ok tt_ok rfl) rfl ?_
        refine k_val (v := .bool ((Int.tmod (IntKind.wrap .i64 (IntKind.wrap .u8 (Int.tdiv v56 4))) 3) == (0 : Int))) rfl rfl rfl (pSub (pH (pA (pA (pH (pA (pCons (sC (sA hC)) pNil))))))) (stepV_ok tt_ok rfl) rfl ?_
        refine k_val rfl rfl rfl (pSub (pH (pA (pA (pH (pA (pCons (sC (sA hC)) pNil))))))) (stepV_ok tt_ok rfl) rfl ?_
        replace h := bsome h; obtain ⟨⟨v188, zbc, zbd⟩, h, hg188⟩ := h
        refine k_split (t := 178) rfl (fun hc => ?_) (fun hc => ?_)
        · replace h := ct hc h
          refine k_val rfl rfl rfl (pSub (pH (pA (pA (pH (pA (pCons (sC (sA hC)) pNil))))))) (stepV_ok tt_ok rfl) rfl ?_
          refine k_val (v := .agg #[.int .u64 p0.Seed, .int .u8 p0.Player, .int .u8 p0.Window, .slice p0a0 p0n0 p0c0, .slice p0a1 p0n1 p0c1]) rfl rfl rfl (pSub (pH (pA (pA (pH (pA (pCons (sC (sA hC)) pNil))))))) (val_load tt_ok rfl (mT (mR (mR (mT (mR (mH)))))) rfl) rfl ?_
          refine k_val rfl rfl rfl (pSub (pH (pA (pA (pH (pA (pCons (sC (sA hC)) pNil))))))) (stepV_ok tt_ok rfl) rfl ?_
          refine k_val rfl rfl rfl (pSub (pH (pA (pA (pH (pA (pCons (sC (sA hC)) pNil))))))) (stepV_ok tt_ok rfl) rfl ?_
          refine k_val rfl rfl rfl (pSub (pH (pA (pA (pH (pA (pCons (sC (sA hC)) pNil))))))) (stepV_ok tt_ok rfl) rfl ?_
          replace h := bsome h; obtain ⟨⟨zi, v180⟩, x180, h⟩ := h; try dsimp only at h
          refine k_cs rfl rfl rfl Tryd.call11 rfl rfl rfl (s_sp (k_rollback_Engine_Shown (p0 := zf) (p0_4 := (T_queue_Queue.mk zaa zd zab)) (p0_5 := (T_ring_Ring.mk zar zh)) zch zcj zci zck zan zao zax zaw x180) (pH (pA (pA (pH (pA (pH (pA pNil))))))) (fun w hI => ⟨(Rds.call G0S (pH (pA (pA (pH (pA (pH (pA pNil))))))) rsub_nil) w hI, (Rds.call G1S (pH (pA (pA (pH (pA (pH (pA pNil))))))) rsub_nil) w hI⟩)) rfl (.inr (by rintro _ _ ⟨_, ⟨_, _, _, _, _, _, _, _, _, _, rfl, rfl⟩, rfl⟩; exact ⟨_, (pH (pA (pA (pH (pA (pCons (sC (sA (sA hC))) pNil))))))⟩)) ?_
          rintro _ _ ⟨_, ⟨zbb, zba, v180a0, v180n0, v180c0, v180B0, zaz, zay, v180N0, v180V0, rfl, rfl⟩, rfl⟩
          replace h := bsome h; obtain ⟨v185, x185, h⟩ := h
          refine k_cs rfl rfl rfl Tryd.call22 rfl rfl rfl (s_sp (k_hindcastlaw26_Game_shown (p0 := p0) p0N0 p0H0 p0N1 p0H1 x185) pNil (fun w hI => ⟨(Rds.call p0S0 pNil rsub_nil) w hI, (Rds.call p0S1 pNil rsub_nil) w hI, (Rds.call G0S pNil rsub_nil) w hI, (Rds.call G1S pNil rsub_nil) w hI⟩)) rfl (.inr (by rintro _ _ ⟨_, ⟨_, _, _, _, _, _, rfl, rfl⟩, rfl⟩; exact ⟨_, (pCons (sA hC) (pApp (sA hA') (pApp (sA hA') (pCons (sA hC) (pApp (sA hA') (pCons (sA (sC (sA (sA hC)))) pNil))))))⟩)) ?_
          rintro _ _ ⟨_, ⟨v185a0, v185n0, v185c0, v185B0, v185N0, v185V0, rfl, rfl⟩, rfl⟩
          replace h := bsome h; obtain ⟨v186, x186, h⟩ := h
          refine k_cq rfl rfl rfl Tryd.call14 rfl rfl rfl (q_pf (k_state_Same (p0 := v180) (p1 := v185) v180N0 (vec_cap v180V0) v185N0 (vec_cap v185V0) x186) (fun w hI => ⟨(Rds.call (Rds.of_vec v180V0) pNil ⟨_, (sA (sC (sA (sA (sC (sA (sC (sA hA'))))))))⟩) w hI, (Rds.call (Rds.of_vec v185V0) pNil ⟨_, hA'⟩) w hI⟩)) rfl (pSub (pCons (sA hC) (pApp (sA hA') (pApp (sA hA') (pCons (sA hC) (pApp (sA hA') (pCons (sA (sC (sA (sA hC)))) pNil))))))) ?_
          refine k_val (v := .bool (!v186)) rfl rfl rfl (pSub (pCons (sA hC) (pApp (sA hA') (pApp (sA hA') (pCons (sA hC) (pApp (sA hA') (pCons (sA (sC (sA (sA hC)))) pNil))))))) (stepV_ok tt_ok rfl) rfl ?_
          simp only [Option.some.injEq, Prod.mk.injEq] at h
          obtain ⟨rfl, rfl, rfl⟩ := h
          have h := hg188; clear hg188; try dsimp only at h
          refine k_val (v := .bool (!v186)) rfl rfl rfl (pSub (pCons (sA hC) (pApp (sA hA') (pApp (sA hA') (pCons (sA hC) (pApp (sA hA') (pCons (sA (sC (sA (sA hC)))) pNil))))))) (stepV_ok tt_ok rfl) rfl ?_
          refine k_end (by kernel_rfl) ?_
          refine wx_then (wc_cond rfl (fun hc => ?_) (fun hc => ?_))
          · replace h := ct hc h
            refine wc_seq (wc_region (wP rfl rfl (wl_nil (wx_then (wc_ret (wx_block_ret (wx_then_ret ?_)))))))
            obtain rfl := Option.some.inj h
            have h := hl29; clear hl29; try dsimp only [orE_l, orE_r] at h
            refine wx_then_ret (wx_block_ret (wx_then_ret ?_))
            obtain rfl := sI h
            exact wx_pf tt_ok (.inl rfl) Tryd.results5 (Res.tmp rfl Res.nil) rfl
          replace h := cf hc h
          refine wc_skip (wx_block (wx_then (wc_region (wP rfl rfl (wP (v := .int .i64 (IntKind.wrap .i64 (zy + (1 : Int)))) rfl rfl (wP rfl rfl (wl_nil ?_)))))))
          exact wx_round m29 (Nat.lt_succ_self m29) ⟨zm, (IntKind.wrap .i64 (zl + (1 : Int))), zz, (IntKind.wrap .i64 (zy + (1 : Int))), zf.player, zf.window, zf.sure.Frame, zf.sure.Seed, zf.sure.Players, zf.sure.Shots, zf.sure.Score, zf.own, zaa, zd, zab, zi.size, zi.places, zcp, zct, zcr, zcn, zcq, zcu, zcs, zco, zbi, zbe, zbj, zbh, zbb, zba, h, zch, zcj, zci, zck, zan, zao, zaz, zay, rfl, rfl⟩ (agree_cons rfl (agree_cons rfl (agree_cons rfl (agree_cons rfl (agree_cons rfl (agree_cons rfl (agree_cons rfl (agree_cons rfl (agree_cons rfl agree_nil))))))))) (pSub (pCons (sA (sC (sA (sA (sC (sA (sC (sA (sA hC))))))))) (pCons (sA hC) (pCons (sA (sA (sA hC))) (pCons (sA (sA (sA (sA hC)))) (pApp (sA hA') (pApp (sA hA') (pApp (sA hA') (pApp (sA hA') pNil)))))))))
        replace h := cf hc h
        refine k_skip rfl rfl (pSub (pH (pA (pA (pH (pA (pCons (sC (sA hC)) pNil))))))) rfl ?_
        refine k_skip rfl rfl (pSub (pH (pA (pA (pH (pA (pCons (sC (sA hC)) pNil))))))) rfl ?_
        refine k_skip rfl rfl (pSub (pH (pA (pA (pH (pA (pCons (sC (sA hC)) pNil))))))) rfl ?_
        refine k_skip rfl rfl (pSub (pH (pA (pA (pH (pA (pCons (sC (sA hC)) pNil))))))) rfl ?_
        refine k_skip rfl rfl (pSub (pH (pA (pA (pH (pA (pCons (sC (sA hC)) pNil))))))) rfl ?_
        refine k_skip rfl rfl (pSub (pH (pA (pA (pH (pA (pCons (sC (sA hC)) pNil))))))) rfl ?_
        refine k_skip rfl rfl (pSub (pH (pA (pA (pH (pA (pCons (sC (sA hC)) pNil))))))) rfl ?_
        refine k_skip rfl rfl (pSub (pH (pA (pA (pH (pA (pCons (sC (sA hC)) pNil))))))) rfl ?_
        refine k_skip rfl rfl (pSub (pH (pA (pA (pH (pA (pCons (sC (sA hC)) pNil))))))) rfl ?_
        simp only [Option.some.injEq, Prod.mk.injEq] at h
        obtain ⟨rfl, rfl, rfl⟩ := h
        have h := hg188; clear hg188; try dsimp only at h
        refine k_val (v := .bool false) rfl rfl rfl (pSub (pH (pA (pA (pH (pA (pCons (sC (sA hC)) pNil))))))) (stepV_ok tt_ok rfl) rfl ?_
        refine k_end (by kernel_rfl) ?_
        refine wx_then ?_
        replace h := cf rfl h
        refine wc_cond_false rfl ?_
        refine wc_skip (wx_block (wx_then (wc_region (wP rfl rfl (wP (v := .int .i64 (IntKind.wrap .i64 (zy + (1 : Int)))) rfl rfl (wP rfl rfl (wl_nil ?_)))))))
        exact wx_round m29 (Nat.lt_succ_self m29) ⟨zm, (IntKind.wrap .i64 (zl + (1 : Int))), zz, (IntKind.wrap .i64 (zy + (1 : Int))), zf.player, zf.window, zf.sure.Frame, zf.sure.Seed, zf.sure.Players, zf.sure.Shots, zf.sure.Score, zf.own, zaa, zd, zab, zar, zh, zcp, zct, zcr, zcn, zcq, zcu, zcs, zco, zbi, zbe, zbj, zbh, zcb, zcg, h, zch, zcj, zci, zck, zan, zao, zax, zaw, rfl, rfl⟩ (agree_cons rfl (agree_cons rfl (agree_cons rfl (agree_cons rfl (agree_cons rfl (agree_cons rfl (agree_cons rfl (agree_cons rfl (agree_cons rfl agree_nil))))))))) (pSub (pCons (sC (sA (sA (sC (sA (sC (sA hC))))))) (pH (pCons (sA (sA hC)) (pCons (sA (sA (sA hC))) (pA (pA (pA (pA pNil)))))))))
      replace h := cf hc h
      refine wc_skip (wx_block (wx_then (wc_seq (wc_seq (wc_region (wP rfl rfl ?_))))))
      replace h := bsome h; obtain ⟨v150, x150, h⟩ := h
      refine wl_cq Tryd.call16 rfl rfl rfl (q_rd (k_rollback_Engine_C (p0 := zf) (p0_4 := (T_queue_Queue.mk zaa zd zab)) (p0_5 := (T_ring_Ring.mk zar zh)) zch zcj zci zck zan zao zax zaw x150) (pH (pA (pA (pH (pA (pH (pA pNil))))))) (fun _ _ => trivial)) rfl ?_
      refine wP rfl rfl (wP (v := .int .u64 (IntKind.wrap .u64 zm)) rfl rfl (wP (v := .bool (v150 != (IntKind.wrap .u64 zm))) rfl rfl (wP rfl rfl ?_)))
      replace h := bsome h; obtain ⟨v160, h, hg160⟩ := h
      refine wl_split (t := 154) rfl (fun hc => ?_) (fun hc => ?_)
      · replace h := ct hc h
        refine wl_skip rfl rfl (wl_skip rfl rfl (wl_skip rfl rfl (wl_skip rfl rfl (wl_skip rfl rfl ?_))))
        obtain rfl := sI h
        have h := hg160; clear hg160
        refine wP (v := .bool true) rfl rfl (wP rfl rfl ?_)
        replace h := bsome h; obtain ⟨v167, h, hg167⟩ := h
        replace h := ct rfl h
        refine wl_skip rfl rfl (wl_skip rfl rfl (wl_skip rfl rfl (wl_skip rfl rfl (wl_skip rfl rfl ?_))))
        obtain rfl := sI h
        have h := hg167; clear hg167
        refine wP (v := .bool true) rfl rfl (wP rfl rfl ?_)
        replace h := bsome h; obtain ⟨v174, h, hg174⟩ := h
        replace h := ct rfl h
        refine wl_skip rfl rfl (wl_skip rfl rfl (wl_skip rfl rfl (wl_skip rfl rfl (wl_skip rfl rfl ?_))))
        obtain rfl := sI h
        have h := hg174; clear hg174
        refine wP (v := .bool true) rfl rfl (wl_nil (wx_then ?_))
        replace h := ct rfl h
        refine wc_cond_true rfl ?_
        refine wc_seq (wc_region (wP rfl rfl (wl_nil (wx_then (wc_ret (wx_then_ret (wx_block_ret (wx_then_ret ?_))))))))
        obtain rfl := Option.some.inj h
        have h := hl29; clear hl29; try dsimp only [orE_l, orE_r] at h
        refine wx_then_ret (wx_block_ret (wx_then_ret ?_))
        obtain rfl := sI h
        exact wx_pf tt_ok (.inl rfl) Tryd.results5 (Res.tmp rfl Res.nil) rfl
      replace h := cf hc h
      refine wl_run rfl (wP rfl rfl ?_)
      replace h := bsome h; obtain ⟨v156, x156, h⟩ := h
      refine wl_run rfl (wl_cq Tryd.call17 rfl rfl rfl (q_rd (k_rollback_Engine_T (p0 := zf) (p0_4 := (T_queue_Queue.mk zaa zd zab)) (p0_5 := (T_ring_Ring.mk zar zh)) zch zcj zci zck zan zao zax zaw x156) (pH (pA (pA (pH (pA (pH (pA pNil))))))) (fun _ _ => trivial)) rfl (wl_run rfl (wP rfl rfl (wl_run rfl (wP (v := .int .u64 (IntKind.wrap .u64 zl)) rfl rfl (wl_run rfl (wP (v := .bool (v156 != (IntKind.wrap .u64 zl))) rfl rfl ?_)))))))
      obtain rfl := sI h
      have h := hg160; clear hg160
      refine wP (v := .bool (v156 != (IntKind.wrap .u64 zl))) rfl rfl (wP rfl rfl ?_)
      replace h := bsome h; obtain ⟨v167, h, hg167⟩ := h
      refine wl_split (t := 161) rfl (fun hc => ?_) (fun hc => ?_)
      · replace h := ct hc h
        refine wl_skip rfl rfl (wl_skip rfl rfl (wl_skip rfl rfl (wl_skip rfl rfl (wl_skip rfl rfl ?_))))
        obtain rfl := sI h
        have h := hg167; clear hg167
        refine wP (v := .bool true) rfl rfl (wP rfl rfl ?_)
        replace h := bsome h; obtain ⟨v174, h, hg174⟩ := h
        replace h := ct rfl h
        refine wl_skip rfl rfl (wl_skip rfl rfl (wl_skip rfl rfl (wl_skip rfl rfl (wl_skip rfl rfl ?_))))
        obtain rfl := sI h
        have h := hg174; clear hg174
        refine wP (v := .bool true) rfl rfl (wl_nil (wx_then ?_))
        replace h := ct rfl h
        refine wc_cond_true rfl ?_
        refine wc_seq (wc_region (wP rfl rfl (wl_nil (wx_then (wc_ret (wx_then_ret (wx_block_ret (wx_then_ret ?_))))))))
        obtain rfl := Option.some.inj h
        have h := hl29; clear hl29; try dsimp only [orE_l, orE_r] at h
        refine wx_then_ret (wx_block_ret (wx_then_ret ?_))
        obtain rfl := sI h
        exact wx_pf tt_ok (.inl rfl) Tryd.results5 (Res.tmp rfl Res.nil) rfl
      replace h := cf hc h
      refine wl_run rfl (wP rfl rfl ?_)
      replace h := bsome h; obtain ⟨v163, x163, h⟩ := h
      refine wl_run rfl (wl_cq Tryd.call19 rfl rfl rfl (q_rd (k_rollback_Engine_Known (p0 := zf) (p0_4 := (T_queue_Queue.mk zaa zd zab)) (p0_5 := (T_ring_Ring.mk zar zh)) zch zcj zci zck zan zao zax zaw x163) (pH (pA (pA (pH (pA (pH (pA pNil))))))) (fun _ _ => trivial)) rfl (wl_run rfl (wP rfl rfl (wl_run rfl (wP (v := .int .u64 (IntKind.wrap .u64 zz)) rfl rfl (wl_run rfl (wP (v := .bool (v163 != (IntKind.wrap .u64 zz))) rfl rfl ?_)))))))
      obtain rfl := sI h
      have h := hg167; clear hg167
      refine wP (v := .bool (v163 != (IntKind.wrap .u64 zz))) rfl rfl (wP rfl rfl ?_)
      replace h := bsome h; obtain ⟨v174, h, hg174⟩ := h
      refine wl_split (t := 168) rfl (fun hc => ?_) (fun hc => ?_)
      · replace h := ct hc h
        refine wl_skip rfl rfl (wl_skip rfl rfl (wl_skip rfl rfl (wl_skip rfl rfl (wl_skip rfl rfl ?_))))
        obtain rfl := sI h
        have h := hg174; clear hg174
        refine wP (v := .bool true) rfl rfl (wl_nil (wx_then ?_))
        replace h := ct rfl h
        refine wc_cond_true rfl ?_
        refine wc_seq (wc_region (wP rfl rfl (wl_nil (wx_then (wc_ret (wx_then_ret (wx_block_ret (wx_then_ret ?_))))))))
        obtain rfl := Option.some.inj h
        have h := hl29; clear hl29; try dsimp only [orE_l, orE_r] at h
        refine wx_then_ret (wx_block_ret (wx_then_ret ?_))
        obtain rfl := sI h
        exact wx_pf tt_ok (.inl rfl) Tryd.results5 (Res.tmp rfl Res.nil) rfl
      replace h := cf hc h
      refine wl_run rfl (wP rfl rfl (wl_run rfl (wP rfl rfl (wl_run rfl (wP (v := .int .i64 (IntKind.wrap .i64 (zl - zm))) rfl rfl (wl_run rfl (wP rfl rfl (wl_run rfl (wP (v := .bool (decide ((IntKind.wrap .i64 ((1 : Int) + (IntKind.wrap .i64 (Int.tmod p0.Window 12)))) < (IntKind.wrap .i64 (zl - zm))))) rfl rfl ?_)))))))))
      obtain rfl := sI h
      have h := hg174; clear hg174
      refine wP (v := .bool (decide ((IntKind.wrap .i64 ((1 : Int) + (IntKind.wrap .i64 (Int.tmod p0.Window 12)))) < (IntKind.wrap .i64 (zl - zm))))) rfl rfl (wl_nil (wx_then (wc_cond rfl (fun hc => ?_) (fun hc => ?_))))
      · replace h := ct hc h
        refine wc_seq (wc_region (wP rfl rfl (wl_nil (wx_then (wc_ret (wx_then_ret (wx_block_ret (wx_then_ret ?_))))))))
        obtain rfl := Option.some.inj h
        have h := hl29; clear hl29; try dsimp only [orE_l, orE_r] at h
        refine wx_then_ret (wx_block_ret (wx_then_ret ?_))
        obtain rfl := sI h
        exact wx_pf tt_ok (.inl rfl) Tryd.results5 (Res.tmp rfl Res.nil) rfl
      replace h := cf hc h
      refine wc_skip (wx_then (wc_seq (wc_k2 (Ls := (⟨zv, (.int .u8 zf.player :: .int .i64 zf.window :: .int .u64 zf.sure.Frame :: .int .u64 zf.sure.Seed :: pl14 zf.sure.Players [.slice zcp zct zcr, .int .u16 zf.sure.Score.1, .int .u16 zf.sure.Score.2, .slice zcq zcu zcs, .pointer (some ⟨zav, 0, none⟩), .pointer (some ⟨zbw, 0, none⟩)]), 55, (0, 0)⟩ :: (zcn ++ (zco ++ (⟨zav, [.int .u64 zaa, .slice zbi zbe zbj, .int .u8 zab], 94, (0, 0)⟩ :: (zbh ++ (⟨b2, [.int .u64 p0.Seed, .int .u8 p0.Player, .int .u8 p0.Window, .slice p0a0 p0n0 p0c0, .slice p0a1 p0n1 p0c1], 25, (0, 0)⟩ :: []))))))) [5, 10, 11] [] [0, 1, 3, 7, 15, 31, 15, 15, 15, 15, 1023, 2047, 4095, 8191] [0, 1, 2, 3, 4, 6, 7, 8, 9, 5, 10, 11, 12, 13] (by kernel_rfl) (by kernel_rfl) (by kernel_rfl) ?_)))
      refine k_val rfl rfl rfl (pSub (pH (pA (pA (pH (pA (pCons (sC (sA hC)) pNil))))))) (stepV_ok tt_ok rfl) rfl ?_
      refine k_val (v := .int .i64 (Int.tmod (IntKind.wrap .i64 (IntKind.wrap .u8 (Int.tdiv v56 4))) 3)) rfl rfl rfl (pSub (pH (pA (pA (pH (pA (pCons (sC (sA hC)) pNil))))))) (stepV_ok tt_ok rfl) rfl ?_
      refine k_val (v := .bool ((Int.tmod (IntKind.wrap .i64 (IntKind.wrap .u8 (Int.tdiv v56 4))) 3) == (0 : Int))) rfl rfl rfl (pSub (pH (pA (pA (pH (pA (pCons (sC (sA hC)) pNil))))))) (stepV_ok tt_ok rfl) rfl ?_
      refine k_val rfl rfl rfl (pSub (pH (pA (pA (pH (pA (pCons (sC (sA hC)) pNil))))))) (stepV_ok tt_ok rfl) rfl ?_
      replace h := bsome h; obtain ⟨⟨v188, zbc, zbd⟩, h, hg188⟩ := h
      refine k_split (t := 178) rfl (fun hc => ?_) (fun hc => ?_)
      · replace h := ct hc h
        refine k_val rfl rfl rfl (pSub (pH (pA (pA (pH (pA (pCons (sC (sA hC)) pNil))))))) (stepV_ok tt_ok rfl) rfl ?_
        refine k_val (v := .agg #[.int .u64 p0.Seed, .int .u8 p0.Player, .int .u8 p0.Window, .slice p0a0 p0n0 p0c0, .slice p0a1 p0n1 p0c1]) rfl rfl rfl (pSub (pH (pA (pA (pH (pA (pCons (sC (sA hC)) pNil))))))) (val_load tt_ok rfl (mT (mR (mR (mT (mR (mH)))))) rfl) rfl ?_
        refine k_val rfl rfl rfl (pSub (pH (pA (pA (pH (pA (pCons (sC (sA hC)) pNil))))))) (stepV_ok tt_ok rfl) rfl ?_
        refine k_val rfl rfl rfl (pSub (pH (pA (pA (pH (pA (pCons (sC (sA hC)) pNil))))))) (stepV_ok tt_ok rfl) rfl ?_
        refine k_val rfl rfl rfl (pSub (pH (pA (pA (pH (pA (pCons (sC (sA hC)) pNil))))))) (stepV_ok tt_ok rfl) rfl ?_
        replace h := bsome h; obtain ⟨⟨zi, v180⟩, x180, h⟩ := h; try dsimp only at h
        refine k_cs rfl rfl rfl Tryd.call11 rfl rfl rfl (s_sp (k_rollback_Engine_Shown (p0 := zf) (p0_4 := (T_queue_Queue.mk zaa zd zab)) (p0_5 := (T_ring_Ring.mk zar zh)) zch zcj zci zck zan zao zax zaw x180) (pH (pA (pA (pH (pA (pH (pA pNil))))))) (fun w hI => ⟨(Rds.call G0S (pH (pA (pA (pH (pA (pH (pA pNil))))))) rsub_nil) w hI, (Rds.call G1S (pH (pA (pA (pH (pA (pH (pA pNil))))))) rsub_nil) w hI⟩)) rfl (.inr (by rintro _ _ ⟨_, ⟨_, _, _, _, _, _, _, _, _, _, rfl, rfl⟩, rfl⟩; exact ⟨_, (pH (pA (pA (pH (pA (pCons (sC (sA (sA hC))) pNil))))))⟩)) ?_
        rintro _ _ ⟨_, ⟨zbb, zba, v180a0, v180n0, v180c0, v180B0, zaz, zay, v180N0, v180V0, rfl, rfl⟩, rfl⟩
        replace h := bsome h; obtain ⟨v185, x185, h⟩ := h
        refine k_cs rfl rfl rfl Tryd.call22 rfl rfl rfl (s_sp (k_hindcastlaw26_Game_shown (p0 := p0) p0N0 p0H0 p0N1 p0H1 x185) pNil (fun w hI => ⟨(Rds.call p0S0 pNil rsub_nil) w hI, (Rds.call p0S1 pNil rsub_nil) w hI, (Rds.call G0S pNil rsub_nil) w hI, (Rds.call G1S pNil rsub_nil) w hI⟩)) rfl (.inr (by rintro _ _ ⟨_, ⟨_, _, _, _, _, _, rfl, rfl⟩, rfl⟩; exact ⟨_, (pCons (sA hC) (pApp (sA hA') (pApp (sA hA') (pCons (sA hC) (pApp (sA hA') (pCons (sA (sC (sA (sA hC)))) pNil))))))⟩)) ?_
        rintro _ _ ⟨_, ⟨v185a0, v185n0, v185c0, v185B0, v185N0, v185V0, rfl, rfl⟩, rfl⟩
        replace h := bsome h; obtain ⟨v186, x186, h⟩ := h
        refine k_cq rfl rfl rfl Tryd.call14 rfl rfl rfl (q_pf (k_state_Same (p0 := v180) (p1 := v185) v180N0 (vec_cap v180V0) v185N0 (vec_cap v185V0) x186) (fun w hI => ⟨(Rds.call (Rds.of_vec v180V0) pNil ⟨_, (sA (sC (sA (sA (sC (sA (sC (sA hA'))))))))⟩) w hI, (Rds.call (Rds.of_vec v185V0) pNil ⟨_, hA'⟩) w hI⟩)) rfl (pSub (pCons (sA hC) (pApp (sA hA') (pApp (sA hA') (pCons (sA hC) (pApp (sA hA') (pCons (sA (sC (sA (sA hC)))) pNil))))))) ?_
        refine k_val (v := .bool (!v186)) rfl rfl rfl (pSub (pCons (sA hC) (pApp (sA hA') (pApp (sA hA') (pCons (sA hC) (pApp (sA hA') (pCons (sA (sC (sA (sA hC)))) pNil))))))) (stepV_ok tt_ok rfl) rfl ?_
        simp only [Option.some.injEq, Prod.mk.injEq] at h
        obtain ⟨rfl, rfl, rfl⟩ := h
        have h := hg188; clear hg188; try dsimp only at h
        refine k_val (v := .bool (!v186)) rfl rfl rfl (pSub (pCons (sA hC) (pApp (sA hA') (pApp (sA hA') (pCons (sA hC) (pApp (sA hA') (pCons (sA (sC (sA (sA hC)))) pNil))))))) (stepV_ok tt_ok rfl) rfl ?_
        refine k_end (by kernel_rfl) ?_
        refine wx_then (wc_cond rfl (fun hc => ?_) (fun hc => ?_))
        · replace h := ct hc h
          refine wc_seq (wc_region (wP rfl rfl (wl_nil (wx_then (wc_ret (wx_block_ret (wx_then_ret ?_)))))))
          obtain rfl := Option.some.inj h
          have h := hl29; clear hl29; try dsimp only [orE_l, orE_r] at h
          refine wx_then_ret (wx_block_ret (wx_then_ret ?_))
          obtain rfl := sI h
          exact wx_pf tt_ok (.inl rfl) Tryd.results5 (Res.tmp rfl Res.nil) rfl
        replace h := cf hc h
        refine wc_skip (wx_block (wx_then (wc_region (wP rfl rfl (wP (v := .int .i64 (IntKind.wrap .i64 (zy + (1 : Int)))) rfl rfl (wP rfl rfl (wl_nil ?_)))))))
        exact wx_round m29 (Nat.lt_succ_self m29) ⟨zm, zl, zz, (IntKind.wrap .i64 (zy + (1 : Int))), zf.player, zf.window, zf.sure.Frame, zf.sure.Seed, zf.sure.Players, zf.sure.Shots, zf.sure.Score, zf.own, zaa, zd, zab, zi.size, zi.places, zcp, zct, zcr, zcn, zcq, zcu, zcs, zco, zbi, zbe, zbj, zbh, zbb, zba, h, zch, zcj, zci, zck, zan, zao, zaz, zay, rfl, rfl⟩ (agree_cons rfl (agree_cons rfl (agree_cons rfl (agree_cons rfl (agree_cons rfl (agree_cons rfl (agree_cons rfl (agree_cons rfl (agree_cons rfl agree_nil))))))))) (pSub (pCons (sA (sC (sA (sA (sC (sA (sC (sA (sA hC))))))))) (pCons (sA hC) (pCons (sA (sA (sA hC))) (pCons (sA (sA (sA (sA hC)))) (pApp (sA hA') (pApp (sA hA') (pApp (sA hA') (pApp (sA hA') pNil)))))))))
      replace h := cf hc h
      refine k_skip rfl rfl (pSub (pH (pA (pA (pH (pA (pCons (sC (sA hC)) pNil))))))) rfl ?_
      refine k_skip rfl rfl (pSub (pH (pA (pA (pH (pA (pCons (sC (sA hC)) pNil))))))) rfl ?_
      refine k_skip rfl rfl (pSub (pH (pA (pA (pH (pA (pCons (sC (sA hC)) pNil))))))) rfl ?_
      refine k_skip rfl rfl (pSub (pH (pA (pA (pH (pA (pCons (sC (sA hC)) pNil))))))) rfl ?_
      refine k_skip rfl rfl (pSub (pH (pA (pA (pH (pA (pCons (sC (sA hC)) pNil))))))) rfl ?_
      refine k_skip rfl rfl (pSub (pH (pA (pA (pH (pA (pCons (sC (sA hC)) pNil))))))) rfl ?_
      refine k_skip rfl rfl (pSub (pH (pA (pA (pH (pA (pCons (sC (sA hC)) pNil))))))) rfl ?_
      refine k_skip rfl rfl (pSub (pH (pA (pA (pH (pA (pCons (sC (sA hC)) pNil))))))) rfl ?_
      refine k_skip rfl rfl (pSub (pH (pA (pA (pH (pA (pCons (sC (sA hC)) pNil))))))) rfl ?_
      simp only [Option.some.injEq, Prod.mk.injEq] at h
      obtain ⟨rfl, rfl, rfl⟩ := h
      have h := hg188; clear hg188; try dsimp only at h
      refine k_val (v := .bool false) rfl rfl rfl (pSub (pH (pA (pA (pH (pA (pCons (sC (sA hC)) pNil))))))) (stepV_ok tt_ok rfl) rfl ?_
      refine k_end (by kernel_rfl) ?_
      refine wx_then ?_
      replace h := cf rfl h
      refine wc_cond_false rfl ?_
      refine wc_skip (wx_block (wx_then (wc_region (wP rfl rfl (wP (v := .int .i64 (IntKind.wrap .i64 (zy + (1 : Int)))) rfl rfl (wP rfl rfl (wl_nil ?_)))))))
      exact wx_round m29 (Nat.lt_succ_self m29) ⟨zm, zl, zz, (IntKind.wrap .i64 (zy + (1 : Int))), zf.player, zf.window, zf.sure.Frame, zf.sure.Seed, zf.sure.Players, zf.sure.Shots, zf.sure.Score, zf.own, zaa, zd, zab, zar, zh, zcp, zct, zcr, zcn, zcq, zcu, zcs, zco, zbi, zbe, zbj, zbh, zcb, zcg, h, zch, zcj, zci, zck, zan, zao, zax, zaw, rfl, rfl⟩ (agree_cons rfl (agree_cons rfl (agree_cons rfl (agree_cons rfl (agree_cons rfl (agree_cons rfl (agree_cons rfl (agree_cons rfl (agree_cons rfl agree_nil))))))))) (pSub (pCons (sC (sA (sA (sC (sA (sC (sA hC))))))) (pH (pCons (sA (sA hC)) (pCons (sA (sA (sA hC))) (pA (pA (pA (pA pNil)))))))))
    replace h := cf hc h
    refine wc_seq (wc_seq (wc_region (wP (v := .bool ((Int.tmod v62 4) == (1 : Int))) rfl rfl (wP rfl rfl (wl_nil (wx_then ?_))))))
    replace h := bsome h; obtain ⟨zdb, h, hj65⟩ := h
    refine wc_join2 (fun E L => E = [(1, .slice p1a0 p1n0 p1c0), (2, .pointer (some ⟨b2, 0, none⟩)), (4, .bool false), (5, .int .i64 (IntKind.wrap .i64 ((1 : Int) + (IntKind.wrap .i64 (Int.tmod p0.Window 12))))), (6, .pointer (some ⟨zv, 0, none⟩)), (7, .int .i64 zm), (8, .int .i64 zl), (9, .int .i64 zz), (10, .int .i64 zy), (11, .int .i64 (IntKind.wrap .i64 (IntKind.wrap .u8 (Int.tdiv v56 4)))), (116, .bool zdb)] ∧ L = (⟨b2, [.int .u64 p0.Seed, .int .u8 p0.Player, .int .u8 p0.Window, .slice p0a0 p0n0 p0c0, .slice p0a1 p0n1 p0c1], 25, (0, 0)⟩ :: (⟨zv, (.int .u8 zr :: .int .i64 zs :: .int .u64 zn :: .int .u64 zo :: pl14 zp [.slice zak zai zal, .int .u16 zk.1, .int .u16 zk.2, .slice zat zam zau, .pointer (some ⟨zav, 0, none⟩), .pointer (some ⟨zbw, 0, none⟩)]), 55, (0, 0)⟩ :: (⟨zav, [.int .u64 zaa, .slice zbi zbe zbj, .int .u8 zab], 94, (0, 0)⟩ :: (⟨zbw, ([.int .i64 zar] ++ flat cg_T_ring_place zcb), 99, (0, 0)⟩ :: (zaj ++ (zas ++ (zbh ++ (zcg ++ []))))))))) ?_ ?_
    · refine wc_cond rfl (fun hc => ?_) (fun hc => ?_)
      · replace h := ct hc h
        refine wc_skip ?_
        obtain rfl := sI h
        exact wx_join ⟨rfl, rfl⟩ (agree_cons rfl (agree_cons rfl (agree_cons rfl (agree_cons rfl (agree_cons rfl (agree_cons rfl (agree_cons rfl (agree_cons rfl (agree_cons rfl (agree_cons rfl (agree_cons rfl agree_nil))))))))))) (pSub (pH (pH (pH (pH (pA (pA (pA (pA pNil)))))))))
      replace h := cf hc h
      refine wc_region (wP (v := .bool ((Int.tmod v62 4) == (2 : Int))) rfl rfl (wP rfl rfl (wl_nil ?_)))
      obtain rfl := sI h
      exact wx_join ⟨rfl, rfl⟩ (agree_cons rfl (agree_cons rfl (agree_cons rfl (agree_cons rfl (agree_cons rfl (agree_cons rfl (agree_cons rfl (agree_cons rfl (agree_cons rfl (agree_cons rfl (agree_cons rfl agree_nil))))))))))) (pSub (pH (pH (pH (pH (pA (pA (pA (pA pNil)))))))))
    rintro _ _ ⟨rfl, rfl⟩
    have h := hj65; clear hj65
    refine wc_cond rfl (fun hc => ?_) (fun hc => ?_)
    · replace h := ct hc h
      refine wc_seq (wc_region (wP rfl rfl (wP (v := .int .i64 (IntKind.wrap .i64 (zz + (1 : Int)))) rfl rfl (wP rfl rfl (wP (v := .int .i64 (Int.tmod (IntKind.wrap .i64 (IntKind.wrap .u8 (Int.tdiv v56 4))) 4)) rfl rfl (wP (v := .int .i64 (IntKind.wrap .i64 ((IntKind.wrap .i64 (zz + (1 : Int))) - (Int.tmod (IntKind.wrap .i64 (IntKind.wrap .u8 (Int.tdiv v56 4))) 4)))) rfl rfl (wP (v := .int .i64 (max (0 : Int) (IntKind.wrap .i64 ((IntKind.wrap .i64 (zz + (1 : Int))) - (Int.tmod (IntKind.wrap .i64 (IntKind.wrap .u8 (Int.tdiv v56 4))) 4))))) rfl rfl (wP rfl rfl (wl_nil (wx_then (wc_seq (wc_region ?_))))))))))))
      iterate 2 refine wP rfl rfl ?_
      refine wP (v := .int .u64 (IntKind.wrap .u64 (max (0 : Int) (IntKind.wrap .i64 ((IntKind.wrap .i64 (zz + (1 : Int))) - (Int.tmod (IntKind.wrap .i64 (IntKind.wrap .u8 (Int.tdiv v56 4))) 4)))))) rfl rfl (wP (v := .pointer (some ⟨b2, 4, none⟩)) rfl rfl (wl_val (v := .slice p0a1 p0n1 p0c1) (val_load tt_ok rfl (mH) rfl) rfl (wP rfl rfl ?_)))
      replace h := bsome h; obtain ⟨v131, x131, h⟩ := h
      refine wl_cq Tryd.call10 rfl rfl rfl (q_pf (k_hindcastlaw26_at (p0 := p0.Theirs) p0N1 p0H1 x131) (Rds.call p0S1 pNil rsub_nil)) rfl ?_
      replace h := bsome h; obtain ⟨⟨zg, zq, v132⟩, x132, h⟩ := h; try dsimp only at h
      refine wl_cs Tryd.call12 rfl rfl rfl (s_sp (k_rollback_Engine_Remote (p0 := (T_rollback_Engine.mk zr zs (T_api_State.mk zn zo zp zb zk) zc)) (p0_4 := (T_queue_Queue.mk zaa zd zab)) (p0_5 := (T_ring_Ring.mk zar zh)) zt zu zw zx zan zao zax zaw x132) (pCons (sC hC) (pApp (sC (sC (sC hA'))) (pApp (sC (sC (sC hA'))) (pCons (sC hC) (pApp (sC (sC hA')) (pCons (sC hC) (pApp (sC hA') pNil))))))) (fun _ _ => trivial)) rfl ?_
      rintro _ _ ⟨_, ⟨zcd, zcf, zce, zcc, zcw, zcv, zbf, zbg, zby, zbx, rfl, rfl⟩, rfl⟩
      refine wP rfl rfl (wl_nil (wx_then (wc_seq (wc_seq (wc_region (wP rfl rfl (wP (v := .bool (v132 == (0 : Int))) rfl rfl (wP rfl rfl ?_))))))))
      replace h := bsome h; obtain ⟨v139, h, hg139⟩ := h
      refine wl_split (t := 135) rfl (fun hc => ?_) (fun hc => ?_)
      · replace h := ct hc h
        refine wl_run rfl (wP rfl rfl (wl_run rfl (wP rfl rfl (wl_run rfl (wP (v := .bool ((max (0 : Int) (IntKind.wrap .i64 ((IntKind.wrap .i64 (zz + (1 : Int))) - (Int.tmod (IntKind.wrap .i64 (IntKind.wrap .u8 (Int.tdiv v56 4))) 4)))) == zz)) rfl rfl ?_)))))
        obtain rfl := sI h
        have h := hg139; clear hg139
        refine wP (v := .bool ((max (0 : Int) (IntKind.wrap .i64 ((IntKind.wrap .i64 (zz + (1 : Int))) - (Int.tmod (IntKind.wrap .i64 (IntKind.wrap .u8 (Int.tdiv v56 4))) 4)))) == zz)) rfl rfl (wl_nil (wx_then ?_))
        replace h := bsome h; obtain ⟨zca, h, hj76⟩ := h
        refine wc_join2 (fun E L => E = [(1, .slice p1a0 p1n0 p1c0), (2, .pointer (some ⟨b2, 0, none⟩)), (4, .bool false), (5, .int .i64 (IntKind.wrap .i64 ((1 : Int) + (IntKind.wrap .i64 (Int.tmod p0.Window 12))))), (6, .pointer (some ⟨zv, 0, none⟩)), (7, .int .i64 zm), (8, .int .i64 zl), (9, .int .i64 zca), (10, .int .i64 zy), (11, .int .i64 (IntKind.wrap .i64 (IntKind.wrap .u8 (Int.tdiv v56 4)))), (13, .int .i64 (max (0 : Int) (IntKind.wrap .i64 ((IntKind.wrap .i64 (zz + (1 : Int))) - (Int.tmod (IntKind.wrap .i64 (IntKind.wrap .u8 (Int.tdiv v56 4))) 4))))), (14, .int .i64 v132)] ∧ L = (⟨b2, [.int .u64 p0.Seed, .int .u8 p0.Player, .int .u8 p0.Window, .slice p0a0 p0n0 p0c0, .slice p0a1 p0n1 p0c1], 25, (0, 0)⟩ :: (⟨zv, (.int .u8 zr :: .int .i64 zs :: .int .u64 zn :: .int .u64 zo :: pl14 zp [.slice zak zai zal, .int .u16 zk.1, .int .u16 zk.2, .slice zat zam zau, .pointer (some ⟨zav, 0, none⟩), .pointer (some ⟨zbw, 0, none⟩)]), 55, (0, 0)⟩ :: (⟨zav, [.int .u64 zg.first_, .slice zcd zcf zce, .int .u8 zg.last], 94, (0, 0)⟩ :: (⟨zbw, ([.int .i64 zq.size] ++ flat cg_T_ring_place zcw), 99, (0, 0)⟩ :: (zaj ++ (zas ++ (zcc ++ (zcv ++ []))))))))) ?_ ?_
        · refine wc_cond rfl (fun hc => ?_) (fun hc => ?_)
          · replace h := ct hc h
            refine wc_region (wP rfl rfl (wP (v := .int .i64 (IntKind.wrap .i64 (zz + (1 : Int)))) rfl rfl (wP rfl rfl (wl_nil ?_))))
            obtain rfl := sI h
            exact wx_join ⟨rfl, rfl⟩ (agree_cons rfl (agree_cons rfl (agree_cons rfl (agree_cons rfl (agree_cons rfl (agree_cons rfl (agree_cons rfl (agree_cons rfl (agree_cons rfl (agree_cons rfl (agree_cons rfl (agree_cons rfl agree_nil)))))))))))) (pSub (pCons (sC (sA (sA (sC (sA (sC (sA hC))))))) (pH (pCons (sA (sA hC)) (pCons (sA (sA (sA hC))) (pA (pA (pA (pA pNil)))))))))
          replace h := cf hc h
          refine wc_skip ?_
          obtain rfl := sI h
          exact wx_join ⟨rfl, rfl⟩ (agree_cons rfl (agree_cons rfl (agree_cons rfl (agree_cons rfl (agree_cons rfl (agree_cons rfl (agree_cons rfl (agree_cons rfl (agree_cons rfl (agree_cons rfl (agree_cons rfl (agree_cons rfl agree_nil)))))))))))) (pSub (pCons (sC (sA (sA (sC (sA (sC (sA hC))))))) (pH (pCons (sA (sA hC)) (pCons (sA (sA (sA hC))) (pA (pA (pA (pA pNil)))))))))
        rintro _ _ ⟨rfl, rfl⟩
        have h := hj76; clear hj76
        refine wc_seq (wc_region (wP rfl rfl (wP (v := .bool (v132 != (0 : Int))) rfl rfl (wP rfl rfl ?_))))
        replace h := bsome h; obtain ⟨v148, h, hg148⟩ := h
        refine wl_split (t := 144) rfl (fun hc => ?_) (fun hc => ?_)
        · replace h := ct hc h
          refine wl_run rfl (wP rfl rfl (wl_run rfl (wP rfl rfl (wl_run rfl (wP (v := .bool (decide ((max (0 : Int) (IntKind.wrap .i64 ((IntKind.wrap .i64 (zz + (1 : Int))) - (Int.tmod (IntKind.wrap .i64 (IntKind.wrap .u8 (Int.tdiv v56 4))) 4)))) < zca))) rfl rfl ?_)))))
          obtain rfl := sI h
          have h := hg148; clear hg148
          refine wP (v := .bool (decide ((max (0 : Int) (IntKind.wrap .i64 ((IntKind.wrap .i64 (zz + (1 : Int))) - (Int.tmod (IntKind.wrap .i64 (IntKind.wrap .u8 (Int.tdiv v56 4))) 4)))) < zca))) rfl rfl (wl_nil (wx_then (wc_cond rfl (fun hc => ?_) (fun hc => ?_))))
          · replace h := ct hc h
            refine wc_seq (wc_region (wP rfl rfl (wl_nil (wx_then (wc_ret (wx_block_ret (wx_then_ret (wx_block_ret (wx_then_ret ?_)))))))))
            obtain rfl := Option.some.inj h
            have h := hl29; clear hl29; try dsimp only [orE_l, orE_r] at h
            refine wx_then_ret (wx_block_ret (wx_then_ret ?_))
            obtain rfl := sI h
            exact wx_pf tt_ok (.inl rfl) Tryd.results5 (Res.tmp rfl Res.nil) rfl
          replace h := cf hc h
          refine wc_skip (wx_block (wx_then (wc_seq (wc_seq (wc_region (wP rfl rfl ?_))))))
          replace h := bsome h; obtain ⟨v150, x150, h⟩ := h
          refine wl_cq Tryd.call16 rfl rfl rfl (q_rd (k_rollback_Engine_C (p0 := (T_rollback_Engine.mk zr zs (T_api_State.mk zn zo zp zb zk) zc)) (p0_4 := zg) (p0_5 := zq) zt zu zw zx zbf zbg zby zbx x150) (pCons (sC hC) (pApp (sC (sC (sC hA'))) (pApp (sC (sC (sC hA'))) (pCons (sC hC) (pApp (sC (sC hA')) (pCons (sC hC) (pApp (sC hA') pNil))))))) (fun _ _ => trivial)) rfl ?_
          refine wP rfl rfl (wP (v := .int .u64 (IntKind.wrap .u64 zm)) rfl rfl (wP (v := .bool (v150 != (IntKind.wrap .u64 zm))) rfl rfl (wP rfl rfl ?_)))
          replace h := bsome h; obtain ⟨v160, h, hg160⟩ := h
          refine wl_split (t := 154) rfl (fun hc => ?_) (fun hc => ?_)
          · replace h := ct hc h
            refine wl_skip rfl rfl (wl_skip rfl rfl (wl_skip rfl rfl (wl_skip rfl rfl (wl_skip rfl rfl ?_))))
            obtain rfl := sI h
            have h := hg160; clear hg160
            refine wP (v := .bool true) rfl rfl (wP rfl rfl ?_)
            replace h := bsome h; obtain ⟨v167, h, hg167⟩ := h
            replace h := ct rfl h
            refine wl_skip rfl rfl (wl_skip rfl rfl (wl_skip rfl rfl (wl_skip rfl rfl (wl_skip rfl rfl ?_))))
            obtain rfl := sI h
            have h := hg167; clear hg167
            refine wP (v := .bool true) rfl rfl (wP rfl rfl ?_)
            replace h := bsome h; obtain ⟨v174, h, hg174⟩ := h
            replace h := ct rfl h
            refine wl_skip rfl rfl (wl_skip rfl rfl (wl_skip rfl rfl (wl_skip rfl rfl (wl_skip rfl rfl ?_))))
            obtain rfl := sI h
            have h := hg174; clear hg174
            refine wP (v := .bool true) rfl rfl (wl_nil (wx_then ?_))
            replace h := ct rfl h
            refine wc_cond_true rfl ?_
            refine wc_seq (wc_region (wP rfl rfl (wl_nil (wx_then (wc_ret (wx_then_ret (wx_block_ret (wx_then_ret ?_))))))))
            obtain rfl := Option.some.inj h
            have h := hl29; clear hl29; try dsimp only [orE_l, orE_r] at h
            refine wx_then_ret (wx_block_ret (wx_then_ret ?_))
            obtain rfl := sI h
            exact wx_pf tt_ok (.inl rfl) Tryd.results5 (Res.tmp rfl Res.nil) rfl
          replace h := cf hc h
          refine wl_run rfl (wP rfl rfl ?_)
          replace h := bsome h; obtain ⟨v156, x156, h⟩ := h
          refine wl_run rfl (wl_cq Tryd.call17 rfl rfl rfl (q_rd (k_rollback_Engine_T (p0 := (T_rollback_Engine.mk zr zs (T_api_State.mk zn zo zp zb zk) zc)) (p0_4 := zg) (p0_5 := zq) zt zu zw zx zbf zbg zby zbx x156) (pCons (sC hC) (pApp (sC (sC (sC hA'))) (pApp (sC (sC (sC hA'))) (pCons (sC hC) (pApp (sC (sC hA')) (pCons (sC hC) (pApp (sC hA') pNil))))))) (fun _ _ => trivial)) rfl (wl_run rfl (wP rfl rfl (wl_run rfl (wP (v := .int .u64 (IntKind.wrap .u64 zl)) rfl rfl ?_)))))
          refine wl_run rfl (wP (v := .bool (v156 != (IntKind.wrap .u64 zl))) rfl rfl ?_)
          obtain rfl := sI h
          have h := hg160; clear hg160
          refine wP (v := .bool (v156 != (IntKind.wrap .u64 zl))) rfl rfl (wP rfl rfl ?_)
          replace h := bsome h; obtain ⟨v167, h, hg167⟩ := h
          refine wl_split (t := 161) rfl (fun hc => ?_) (fun hc => ?_)
          · replace h := ct hc h
            refine wl_skip rfl rfl (wl_skip rfl rfl (wl_skip rfl rfl (wl_skip rfl rfl (wl_skip rfl rfl ?_))))
            obtain rfl := sI h
            have h := hg167; clear hg167
            refine wP (v := .bool true) rfl rfl (wP rfl rfl ?_)
            replace h := bsome h; obtain ⟨v174, h, hg174⟩ := h
            replace h := ct rfl h
            refine wl_skip rfl rfl (wl_skip rfl rfl (wl_skip rfl rfl (wl_skip rfl rfl (wl_skip rfl rfl ?_))))
            obtain rfl := sI h
            have h := hg174; clear hg174
            refine wP (v := .bool true) rfl rfl (wl_nil (wx_then ?_))
            replace h := ct rfl h
            refine wc_cond_true rfl ?_
            refine wc_seq (wc_region (wP rfl rfl (wl_nil (wx_then (wc_ret (wx_then_ret (wx_block_ret (wx_then_ret ?_))))))))
            obtain rfl := Option.some.inj h
            have h := hl29; clear hl29; try dsimp only [orE_l, orE_r] at h
            refine wx_then_ret (wx_block_ret (wx_then_ret ?_))
            obtain rfl := sI h
            exact wx_pf tt_ok (.inl rfl) Tryd.results5 (Res.tmp rfl Res.nil) rfl
          replace h := cf hc h
          refine wl_run rfl (wP rfl rfl ?_)
          replace h := bsome h; obtain ⟨v163, x163, h⟩ := h
          refine wl_run rfl (wl_cq Tryd.call19 rfl rfl rfl (q_rd (k_rollback_Engine_Known (p0 := (T_rollback_Engine.mk zr zs (T_api_State.mk zn zo zp zb zk) zc)) (p0_4 := zg) (p0_5 := zq) zt zu zw zx zbf zbg zby zbx x163) (pCons (sC hC) (pApp (sC (sC (sC hA'))) (pApp (sC (sC (sC hA'))) (pCons (sC hC) (pApp (sC (sC hA')) (pCons (sC hC) (pApp (sC hA') pNil))))))) (fun _ _ => trivial)) rfl (wl_run rfl (wP rfl rfl (wl_run rfl (wP (v := .int .u64 (IntKind.wrap .u64 zca)) rfl rfl ?_)))))
          refine wl_run rfl (wP (v := .bool (v163 != (IntKind.wrap .u64 zca))) rfl rfl ?_)
          obtain rfl := sI h
          have h := hg167; clear hg167
          refine wP (v := .bool (v163 != (IntKind.wrap .u64 zca))) rfl rfl (wP rfl rfl ?_)
          replace h := bsome h; obtain ⟨v174, h, hg174⟩ := h
          refine wl_split (t := 168) rfl (fun hc => ?_) (fun hc => ?_)
          · replace h := ct hc h
            refine wl_skip rfl rfl (wl_skip rfl rfl (wl_skip rfl rfl (wl_skip rfl rfl (wl_skip rfl rfl ?_))))
            obtain rfl := sI h
            have h := hg174; clear hg174
            refine wP (v := .bool true) rfl rfl (wl_nil (wx_then ?_))
            replace h := ct rfl h
            refine wc_cond_true rfl ?_
            refine wc_seq (wc_region (wP rfl rfl (wl_nil (wx_then (wc_ret (wx_then_ret (wx_block_ret (wx_then_ret ?_))))))))
            obtain rfl := Option.some.inj h
            have h := hl29; clear hl29; try dsimp only [orE_l, orE_r] at h
            refine wx_then_ret (wx_block_ret (wx_then_ret ?_))
            obtain rfl := sI h
            exact wx_pf tt_ok (.inl rfl) Tryd.results5 (Res.tmp rfl Res.nil) rfl
          replace h := cf hc h
          refine wl_run rfl (wP rfl rfl (wl_run rfl (wP rfl rfl (wl_run rfl (wP (v := .int .i64 (IntKind.wrap .i64 (zl - zm))) rfl rfl (wl_run rfl (wP rfl rfl (wl_run rfl (wP (v := .bool (decide ((IntKind.wrap .i64 ((1 : Int) + (IntKind.wrap .i64 (Int.tmod p0.Window 12)))) < (IntKind.wrap .i64 (zl - zm))))) rfl rfl ?_)))))))))
          obtain rfl := sI h
          have h := hg174; clear hg174
          refine wP (v := .bool (decide ((IntKind.wrap .i64 ((1 : Int) + (IntKind.wrap .i64 (Int.tmod p0.Window 12)))) < (IntKind.wrap .i64 (zl - zm))))) rfl rfl (wl_nil (wx_then (wc_cond rfl (fun hc => ?_) (fun hc => ?_))))
          · replace h := ct hc h
            refine wc_seq (wc_region (wP rfl rfl (wl_nil (wx_then (wc_ret (wx_then_ret (wx_block_ret (wx_then_ret ?_))))))))
            obtain rfl := Option.some.inj h
            have h := hl29; clear hl29; try dsimp only [orE_l, orE_r] at h
            refine wx_then_ret (wx_block_ret (wx_then_ret ?_))
            obtain rfl := sI h
            exact wx_pf tt_ok (.inl rfl) Tryd.results5 (Res.tmp rfl Res.nil) rfl
          replace h := cf hc h
          refine wc_skip (wx_then (wc_seq (wc_k2 (Ls := (⟨b2, [.int .u64 p0.Seed, .int .u8 p0.Player, .int .u8 p0.Window, .slice p0a0 p0n0 p0c0, .slice p0a1 p0n1 p0c1], 25, (0, 0)⟩ :: (⟨zv, (.int .u8 zr :: .int .i64 zs :: .int .u64 zn :: .int .u64 zo :: pl14 zp [.slice zak zai zal, .int .u16 zk.1, .int .u16 zk.2, .slice zat zam zau, .pointer (some ⟨zav, 0, none⟩), .pointer (some ⟨zbw, 0, none⟩)]), 55, (0, 0)⟩ :: (⟨zav, [.int .u64 zg.first_, .slice zcd zcf zce, .int .u8 zg.last], 94, (0, 0)⟩ :: (zaj ++ (zas ++ (zcc ++ []))))))) [5, 10, 11] [] [0, 1, 3, 7, 15, 31, 15, 15, 15, 15, 1023, 2047, 4095, 8191] [0, 1, 2, 3, 4, 6, 7, 8, 9, 5, 10, 11, 12, 13] (by kernel_rfl) (by kernel_rfl) (by kernel_rfl) ?_)))
          refine k_val rfl rfl rfl (pSub (pH (pH (pH (pApp (sC hA') (pApp (sC hA') (pApp (sC hA') pNil))))))) (stepV_ok tt_ok rfl) rfl ?_
          refine k_val (v := .int .i64 (Int.tmod (IntKind.wrap .i64 (IntKind.wrap .u8 (Int.tdiv v56 4))) 3)) rfl rfl rfl (pSub (pH (pH (pH (pApp (sC hA') (pApp (sC hA') (pApp (sC hA') pNil))))))) (stepV_ok tt_ok rfl) rfl ?_
          refine k_val (v := .bool ((Int.tmod (IntKind.wrap .i64 (IntKind.wrap .u8 (Int.tdiv v56 4))) 3) == (0 : Int))) rfl rfl rfl (pSub (pH (pH (pH (pApp (sC hA') (pApp (sC hA') (pApp (sC hA') pNil))))))) (stepV_ok tt_ok rfl) rfl ?_
          refine k_val rfl rfl rfl (pSub (pH (pH (pH (pApp (sC hA') (pApp (sC hA') (pApp (sC hA') pNil))))))) (stepV_ok tt_ok rfl) rfl ?_
          replace h := bsome h; obtain ⟨⟨v188, zbc, zbd⟩, h, hg188⟩ := h
          refine k_split (t := 178) rfl (fun hc => ?_) (fun hc => ?_)
          · replace h := ct hc h
            refine k_val rfl rfl rfl (pSub (pH (pH (pH (pApp (sC hA') (pApp (sC hA') (pApp (sC hA') pNil))))))) (stepV_ok tt_ok rfl) rfl ?_
            refine k_val (v := .agg #[.int .u64 p0.Seed, .int .u8 p0.Player, .int .u8 p0.Window, .slice p0a0 p0n0 p0c0, .slice p0a1 p0n1 p0c1]) rfl rfl rfl (pSub (pH (pH (pH (pApp (sC hA') (pApp (sC hA') (pApp (sC hA') pNil))))))) (val_load tt_ok rfl (mH) rfl) rfl ?_
            refine k_val rfl rfl rfl (pSub (pH (pH (pH (pApp (sC hA') (pApp (sC hA') (pApp (sC hA') pNil))))))) (stepV_ok tt_ok rfl) rfl ?_
            refine k_val rfl rfl rfl (pSub (pH (pH (pH (pApp (sC hA') (pApp (sC hA') (pApp (sC hA') pNil))))))) (stepV_ok tt_ok rfl) rfl ?_
            refine k_val rfl rfl rfl (pSub (pH (pH (pH (pApp (sC hA') (pApp (sC hA') (pApp (sC hA') pNil))))))) (stepV_ok tt_ok rfl) rfl ?_
            replace h := bsome h; obtain ⟨⟨zi, v180⟩, x180, h⟩ := h; try dsimp only at h
            refine k_cs rfl rfl rfl Tryd.call11 rfl rfl rfl (s_sp (k_rollback_Engine_Shown (p0 := (T_rollback_Engine.mk zr zs (T_api_State.mk zn zo zp zb zk) zc)) (p0_4 := zg) (p0_5 := zq) zt zu zw zx zbf zbg zby zbx x180) (pCons (sC hC) (pApp (sC (sC (sC hA'))) (pApp (sC (sC (sC hA'))) (pCons (sC hC) (pApp (sC (sC hA')) (pCons (sC hC) (pApp (sC hA') pNil))))))) (fun w hI => ⟨(Rds.call G0S (pCons (sC hC) (pApp (sC (sC (sC hA'))) (pApp (sC (sC (sC hA'))) (pCons (sC hC) (pApp (sC (sC hA')) (pCons (sC hC) (pApp (sC hA') pNil))))))) rsub_nil) w hI, (Rds.call G1S (pCons (sC hC) (pApp (sC (sC (sC hA'))) (pApp (sC (sC (sC hA'))) (pCons (sC hC) (pApp (sC (sC hA')) (pCons (sC hC) (pApp (sC hA') pNil))))))) rsub_nil) w hI⟩)) rfl (.inr (by rintro _ _ ⟨_, ⟨_, _, _, _, _, _, _, _, _, _, rfl, rfl⟩, rfl⟩; exact ⟨_, (pCons (sC (sA (sA (sC (sA (sC (sA (sA hC)))))))) (pH (pCons (sA (sA hC)) (pA (pA (pA pNil))))))⟩)) ?_
            rintro _ _ ⟨_, ⟨zbb, zba, v180a0, v180n0, v180c0, v180B0, zaz, zay, v180N0, v180V0, rfl, rfl⟩, rfl⟩
            replace h := bsome h; obtain ⟨v185, x185, h⟩ := h
            refine k_cs rfl rfl rfl Tryd.call22 rfl rfl rfl (s_sp (k_hindcastlaw26_Game_shown (p0 := p0) p0N0 p0H0 p0N1 p0H1 x185) pNil (fun w hI => ⟨(Rds.call p0S0 pNil rsub_nil) w hI, (Rds.call p0S1 pNil rsub_nil) w hI, (Rds.call G0S pNil rsub_nil) w hI, (Rds.call G1S pNil rsub_nil) w hI⟩)) rfl (.inr (by rintro _ _ ⟨_, ⟨_, _, _, _, _, _, rfl, rfl⟩, rfl⟩; exact ⟨_, (pCons (sA (sC (sA (sA (sC (sA (sC (sA (sA hC))))))))) (pCons (sA hC) (pCons (sA (sA (sA hC))) (pApp (sA hA') (pApp (sA hA') (pApp (sA hA') pNil))))))⟩)) ?_
            rintro _ _ ⟨_, ⟨v185a0, v185n0, v185c0, v185B0, v185N0, v185V0, rfl, rfl⟩, rfl⟩
            replace h := bsome h; obtain ⟨v186, x186, h⟩ := h
            refine k_cq rfl rfl rfl Tryd.call14 rfl rfl rfl (q_pf (k_state_Same (p0 := v180) (p1 := v185) v180N0 (vec_cap v180V0) v185N0 (vec_cap v185V0) x186) (fun w hI => ⟨(Rds.call (Rds.of_vec v180V0) pNil ⟨_, (sA (sC (sA (sA (sC (sA (sC (sA hA'))))))))⟩) w hI, (Rds.call (Rds.of_vec v185V0) pNil ⟨_, hA'⟩) w hI⟩)) rfl (pSub (pCons (sA (sC (sA (sA (sC (sA (sC (sA (sA hC))))))))) (pCons (sA hC) (pCons (sA (sA (sA hC))) (pApp (sA hA') (pApp (sA hA') (pApp (sA hA') pNil))))))) ?_
            refine k_val (v := .bool (!v186)) rfl rfl rfl (pSub (pCons (sA (sC (sA (sA (sC (sA (sC (sA (sA hC))))))))) (pCons (sA hC) (pCons (sA (sA (sA hC))) (pApp (sA hA') (pApp (sA hA') (pApp (sA hA') pNil))))))) (stepV_ok tt_ok rfl) rfl ?_
            simp only [Option.some.injEq, Prod.mk.injEq] at h
            obtain ⟨rfl, rfl, rfl⟩ := h
            have h := hg188; clear hg188; try dsimp only at h
            refine k_val (v := .bool (!v186)) rfl rfl rfl (pSub (pCons (sA (sC (sA (sA (sC (sA (sC (sA (sA hC))))))))) (pCons (sA hC) (pCons (sA (sA (sA hC))) (pApp (sA hA') (pApp (sA hA') (pApp (sA hA') pNil))))))) (stepV_ok tt_ok rfl) rfl ?_
            refine k_end (by kernel_rfl) ?_
            refine wx_then (wc_cond rfl (fun hc => ?_) (fun hc => ?_))
            · replace h := ct hc h
              refine wc_seq (wc_region (wP rfl rfl (wl_nil (wx_then (wc_ret (wx_block_ret (wx_then_ret ?_)))))))
              obtain rfl := Option.some.inj h
              have h := hl29; clear hl29; try dsimp only [orE_l, orE_r] at h
              refine wx_then_ret (wx_block_ret (wx_then_ret ?_))
              obtain rfl := sI h
              exact wx_pf tt_ok (.inl rfl) Tryd.results5 (Res.tmp rfl Res.nil) rfl
            replace h := cf hc h
            refine wc_skip (wx_block (wx_then (wc_region (wP rfl rfl (wP (v := .int .i64 (IntKind.wrap .i64 (zy + (1 : Int)))) rfl rfl (wP rfl rfl (wl_nil ?_)))))))
            exact wx_round m29 (Nat.lt_succ_self m29) ⟨zm, zl, zca, (IntKind.wrap .i64 (zy + (1 : Int))), zr, zs, zn, zo, zp, zb, zk, zc, zg.first_, zg.l, zg.last, zi.size, zi.places, zak, zai, zal, zaj, zat, zam, zau, zas, zcd, zcf, zce, zcc, zbb, zba, h, zt, zu, zw, zx, zbf, zbg, zaz, zay, rfl, rfl⟩ (agree_cons rfl (agree_cons rfl (agree_cons rfl (agree_cons rfl (agree_cons rfl (agree_cons rfl (agree_cons rfl (agree_cons rfl (agree_cons rfl agree_nil))))))))) (pSub (pCons (sA (sC (sA (sA (sC (sA (sC (sA (sA hC))))))))) (pCons (sA hC) (pCons (sA (sA (sA hC))) (pCons (sA (sA (sA (sA hC)))) (pApp (sA hA') (pApp (sA hA') (pApp (sA hA') (pApp (sA hA') pNil)))))))))
          replace h := cf hc h
          refine k_skip rfl rfl (pSub (pH (pH (pH (pApp (sC hA') (pApp (sC hA') (pApp (sC hA') pNil))))))) rfl ?_
          refine k_skip rfl rfl (pSub (pH (pH (pH (pApp (sC hA') (pApp (sC hA') (pApp (sC hA') pNil))))))) rfl ?_
          refine k_skip rfl rfl (pSub (pH (pH (pH (pApp (sC hA') (pApp (sC hA') (pApp (sC hA') pNil))))))) rfl ?_
          refine k_skip rfl rfl (pSub (pH (pH (pH (pApp (sC hA') (pApp (sC hA') (pApp (sC hA') pNil))))))) rfl ?_
          refine k_skip rfl rfl (pSub (pH (pH (pH (pApp (sC hA') (pApp (sC hA') (pApp (sC hA') pNil))))))) rfl ?_
          refine k_skip rfl rfl (pSub (pH (pH (pH (pApp (sC hA') (pApp (sC hA') (pApp (sC hA') pNil))))))) rfl ?_
          refine k_skip rfl rfl (pSub (pH (pH (pH (pApp (sC hA') (pApp (sC hA') (pApp (sC hA') pNil))))))) rfl ?_
          refine k_skip rfl rfl (pSub (pH (pH (pH (pApp (sC hA') (pApp (sC hA') (pApp (sC hA') pNil))))))) rfl ?_
          refine k_skip rfl rfl (pSub (pH (pH (pH (pApp (sC hA') (pApp (sC hA') (pApp (sC hA') pNil))))))) rfl ?_
          simp only [Option.some.injEq, Prod.mk.injEq] at h
          obtain ⟨rfl, rfl, rfl⟩ := h
          have h := hg188; clear hg188; try dsimp only at h
          refine k_val (v := .bool false) rfl rfl rfl (pSub (pH (pH (pH (pApp (sC hA') (pApp (sC hA') (pApp (sC hA') pNil))))))) (stepV_ok tt_ok rfl) rfl ?_
          refine k_end (by kernel_rfl) ?_
          refine wx_then ?_
          replace h := cf rfl h
          refine wc_cond_false rfl ?_
          refine wc_skip (wx_block (wx_then (wc_region (wP rfl rfl (wP (v := .int .i64 (IntKind.wrap .i64 (zy + (1 : Int)))) rfl rfl (wP rfl rfl (wl_nil ?_)))))))
          exact wx_round m29 (Nat.lt_succ_self m29) ⟨zm, zl, zca, (IntKind.wrap .i64 (zy + (1 : Int))), zr, zs, zn, zo, zp, zb, zk, zc, zg.first_, zg.l, zg.last, zq.size, zq.places, zak, zai, zal, zaj, zat, zam, zau, zas, zcd, zcf, zce, zcc, zcw, zcv, h, zt, zu, zw, zx, zbf, zbg, zby, zbx, rfl, rfl⟩ (agree_cons rfl (agree_cons rfl (agree_cons rfl (agree_cons rfl (agree_cons rfl (agree_cons rfl (agree_cons rfl (agree_cons rfl (agree_cons rfl agree_nil))))))))) (pSub (pH (pH (pH (pH (pA (pA (pA (pA pNil)))))))))
        replace h := cf hc h
        refine wl_skip rfl rfl (wl_skip rfl rfl (wl_skip rfl rfl ?_))
        obtain rfl := sI h
        have h := hg148; clear hg148
        refine wP (v := .bool false) rfl rfl (wl_nil (wx_then ?_))
        replace h := cf rfl h
        refine wc_cond_false rfl ?_
        refine wc_skip (wx_block (wx_then (wc_seq (wc_seq (wc_region (wP rfl rfl ?_))))))
        replace h := bsome h; obtain ⟨v150, x150, h⟩ := h
        refine wl_cq Tryd.call16 rfl rfl rfl (q_rd (k_rollback_Engine_C (p0 := (T_rollback_Engine.mk zr zs (T_api_State.mk zn zo zp zb zk) zc)) (p0_4 := zg) (p0_5 := zq) zt zu zw zx zbf zbg zby zbx x150) (pCons (sC hC) (pApp (sC (sC (sC hA'))) (pApp (sC (sC (sC hA'))) (pCons (sC hC) (pApp (sC (sC hA')) (pCons (sC hC) (pApp (sC hA') pNil))))))) (fun _ _ => trivial)) rfl ?_
        refine wP rfl rfl (wP (v := .int .u64 (IntKind.wrap .u64 zm)) rfl rfl (wP (v := .bool (v150 != (IntKind.wrap .u64 zm))) rfl rfl (wP rfl rfl ?_)))
        replace h := bsome h; obtain ⟨v160, h, hg160⟩ := h
        refine wl_split (t := 154) rfl (fun hc => ?_) (fun hc => ?_)
        · replace h := ct hc h
          refine wl_skip rfl rfl (wl_skip rfl rfl (wl_skip rfl rfl (wl_skip rfl rfl (wl_skip rfl rfl ?_))))
          obtain rfl := sI h
          have h := hg160; clear hg160
          refine wP (v := .bool true) rfl rfl (wP rfl rfl ?_)
          replace h := bsome h; obtain ⟨v167, h, hg167⟩ := h
          replace h := ct rfl h
          refine wl_skip rfl rfl (wl_skip rfl rfl (wl_skip rfl rfl (wl_skip rfl rfl (wl_skip rfl rfl ?_))))
          obtain rfl := sI h
          have h := hg167; clear hg167
          refine wP (v := .bool true) rfl rfl (wP rfl rfl ?_)
          replace h := bsome h; obtain ⟨v174, h, hg174⟩ := h
          replace h := ct rfl h
          refine wl_skip rfl rfl (wl_skip rfl rfl (wl_skip rfl rfl (wl_skip rfl rfl (wl_skip rfl rfl ?_))))
          obtain rfl := sI h
          have h := hg174; clear hg174
          refine wP (v := .bool true) rfl rfl (wl_nil (wx_then ?_))
          replace h := ct rfl h
          refine wc_cond_true rfl ?_
          refine wc_seq (wc_region (wP rfl rfl (wl_nil (wx_then (wc_ret (wx_then_ret (wx_block_ret (wx_then_ret ?_))))))))
          obtain rfl := Option.some.inj h
          have h := hl29; clear hl29; try dsimp only [orE_l, orE_r] at h
          refine wx_then_ret (wx_block_ret (wx_then_ret ?_))
          obtain rfl := sI h
          exact wx_pf tt_ok (.inl rfl) Tryd.results5 (Res.tmp rfl Res.nil) rfl
        replace h := cf hc h
        refine wl_run rfl (wP rfl rfl ?_)
        replace h := bsome h; obtain ⟨v156, x156, h⟩ := h
        refine wl_run rfl (wl_cq Tryd.call17 rfl rfl rfl (q_rd (k_rollback_Engine_T (p0 := (T_rollback_Engine.mk zr zs (T_api_State.mk zn zo zp zb zk) zc)) (p0_4 := zg) (p0_5 := zq) zt zu zw zx zbf zbg zby zbx x156) (pCons (sC hC) (pApp (sC (sC (sC hA'))) (pApp (sC (sC (sC hA'))) (pCons (sC hC) (pApp (sC (sC hA')) (pCons (sC hC) (pApp (sC hA') pNil))))))) (fun _ _ => trivial)) rfl (wl_run rfl (wP rfl rfl (wl_run rfl (wP (v := .int .u64 (IntKind.wrap .u64 zl)) rfl rfl ?_)))))
        refine wl_run rfl (wP (v := .bool (v156 != (IntKind.wrap .u64 zl))) rfl rfl ?_)
        obtain rfl := sI h
        have h := hg160; clear hg160
        refine wP (v := .bool (v156 != (IntKind.wrap .u64 zl))) rfl rfl (wP rfl rfl ?_)
        replace h := bsome h; obtain ⟨v167, h, hg167⟩ := h
        refine wl_split (t := 161) rfl (fun hc => ?_) (fun hc => ?_)
        · replace h := ct hc h
          refine wl_skip rfl rfl (wl_skip rfl rfl (wl_skip rfl rfl (wl_skip rfl rfl (wl_skip rfl rfl ?_))))
          obtain rfl := sI h
          have h := hg167; clear hg167
          refine wP (v := .bool true) rfl rfl (wP rfl rfl ?_)
          replace h := bsome h; obtain ⟨v174, h, hg174⟩ := h
          replace h := ct rfl h
          refine wl_skip rfl rfl (wl_skip rfl rfl (wl_skip rfl rfl (wl_skip rfl rfl (wl_skip rfl rfl ?_))))
          obtain rfl := sI h
          have h := hg174; clear hg174
          refine wP (v := .bool true) rfl rfl (wl_nil (wx_then ?_))
          replace h := ct rfl h
          refine wc_cond_true rfl ?_
          refine wc_seq (wc_region (wP rfl rfl (wl_nil (wx_then (wc_ret (wx_then_ret (wx_block_ret (wx_then_ret ?_))))))))
          obtain rfl := Option.some.inj h
          have h := hl29; clear hl29; try dsimp only [orE_l, orE_r] at h
          refine wx_then_ret (wx_block_ret (wx_then_ret ?_))
          obtain rfl := sI h
          exact wx_pf tt_ok (.inl rfl) Tryd.results5 (Res.tmp rfl Res.nil) rfl
        replace h := cf hc h
        refine wl_run rfl (wP rfl rfl ?_)
        replace h := bsome h; obtain ⟨v163, x163, h⟩ := h
        refine wl_run rfl (wl_cq Tryd.call19 rfl rfl rfl (q_rd (k_rollback_Engine_Known (p0 := (T_rollback_Engine.mk zr zs (T_api_State.mk zn zo zp zb zk) zc)) (p0_4 := zg) (p0_5 := zq) zt zu zw zx zbf zbg zby zbx x163) (pCons (sC hC) (pApp (sC (sC (sC hA'))) (pApp (sC (sC (sC hA'))) (pCons (sC hC) (pApp (sC (sC hA')) (pCons (sC hC) (pApp (sC hA') pNil))))))) (fun _ _ => trivial)) rfl (wl_run rfl (wP rfl rfl (wl_run rfl (wP (v := .int .u64 (IntKind.wrap .u64 zca)) rfl rfl ?_)))))
        refine wl_run rfl (wP (v := .bool (v163 != (IntKind.wrap .u64 zca))) rfl rfl ?_)
        obtain rfl := sI h
        have h := hg167; clear hg167
        refine wP (v := .bool (v163 != (IntKind.wrap .u64 zca))) rfl rfl (wP rfl rfl ?_)
        replace h := bsome h; obtain ⟨v174, h, hg174⟩ := h
        refine wl_split (t := 168) rfl (fun hc => ?_) (fun hc => ?_)
        · replace h := ct hc h
          refine wl_skip rfl rfl (wl_skip rfl rfl (wl_skip rfl rfl (wl_skip rfl rfl (wl_skip rfl rfl ?_))))
          obtain rfl := sI h
          have h := hg174; clear hg174
          refine wP (v := .bool true) rfl rfl (wl_nil (wx_then ?_))
          replace h := ct rfl h
          refine wc_cond_true rfl ?_
          refine wc_seq (wc_region (wP rfl rfl (wl_nil (wx_then (wc_ret (wx_then_ret (wx_block_ret (wx_then_ret ?_))))))))
          obtain rfl := Option.some.inj h
          have h := hl29; clear hl29; try dsimp only [orE_l, orE_r] at h
          refine wx_then_ret (wx_block_ret (wx_then_ret ?_))
          obtain rfl := sI h
          exact wx_pf tt_ok (.inl rfl) Tryd.results5 (Res.tmp rfl Res.nil) rfl
        replace h := cf hc h
        refine wl_run rfl (wP rfl rfl (wl_run rfl (wP rfl rfl (wl_run rfl (wP (v := .int .i64 (IntKind.wrap .i64 (zl - zm))) rfl rfl (wl_run rfl (wP rfl rfl (wl_run rfl (wP (v := .bool (decide ((IntKind.wrap .i64 ((1 : Int) + (IntKind.wrap .i64 (Int.tmod p0.Window 12)))) < (IntKind.wrap .i64 (zl - zm))))) rfl rfl ?_)))))))))
        obtain rfl := sI h
        have h := hg174; clear hg174
        refine wP (v := .bool (decide ((IntKind.wrap .i64 ((1 : Int) + (IntKind.wrap .i64 (Int.tmod p0.Window 12)))) < (IntKind.wrap .i64 (zl - zm))))) rfl rfl (wl_nil (wx_then (wc_cond rfl (fun hc => ?_) (fun hc => ?_))))
        · replace h := ct hc h
          refine wc_seq (wc_region (wP rfl rfl (wl_nil (wx_then (wc_ret (wx_then_ret (wx_block_ret (wx_then_ret ?_))))))))
          obtain rfl := Option.some.inj h
          have h := hl29; clear hl29; try dsimp only [orE_l, orE_r] at h
          refine wx_then_ret (wx_block_ret (wx_then_ret ?_))
          obtain rfl := sI h
          exact wx_pf tt_ok (.inl rfl) Tryd.results5 (Res.tmp rfl Res.nil) rfl
        replace h := cf hc h
        refine wc_skip (wx_then (wc_seq (wc_k2 (Ls := (⟨b2, [.int .u64 p0.Seed, .int .u8 p0.Player, .int .u8 p0.Window, .slice p0a0 p0n0 p0c0, .slice p0a1 p0n1 p0c1], 25, (0, 0)⟩ :: (⟨zv, (.int .u8 zr :: .int .i64 zs :: .int .u64 zn :: .int .u64 zo :: pl14 zp [.slice zak zai zal, .int .u16 zk.1, .int .u16 zk.2, .slice zat zam zau, .pointer (some ⟨zav, 0, none⟩), .pointer (some ⟨zbw, 0, none⟩)]), 55, (0, 0)⟩ :: (⟨zav, [.int .u64 zg.first_, .slice zcd zcf zce, .int .u8 zg.last], 94, (0, 0)⟩ :: (zaj ++ (zas ++ (zcc ++ []))))))) [5, 10, 11] [] [0, 1, 3, 7, 15, 31, 15, 15, 15, 15, 1023, 2047, 4095, 8191] [0, 1, 2, 3, 4, 6, 7, 8, 9, 5, 10, 11, 12, 13] (by kernel_rfl) (by kernel_rfl) (by kernel_rfl) ?_)))
        refine k_val rfl rfl rfl (pSub (pH (pH (pH (pApp (sC hA') (pApp (sC hA') (pApp (sC hA') pNil))))))) (stepV_ok tt_ok rfl) rfl ?_
        refine k_val (v := .int .i64 (Int.tmod (IntKind.wrap .i64 (IntKind.wrap .u8 (Int.tdiv v56 4))) 3)) rfl rfl rfl (pSub (pH (pH (pH (pApp (sC hA') (pApp (sC hA') (pApp (sC hA') pNil))))))) (stepV_ok tt_ok rfl) rfl ?_
        refine k_val (v := .bool ((Int.tmod (IntKind.wrap .i64 (IntKind.wrap .u8 (Int.tdiv v56 4))) 3) == (0 : Int))) rfl rfl rfl (pSub (pH (pH (pH (pApp (sC hA') (pApp (sC hA') (pApp (sC hA') pNil))))))) (stepV_ok tt_ok rfl) rfl ?_
        refine k_val rfl rfl rfl (pSub (pH (pH (pH (pApp (sC hA') (pApp (sC hA') (pApp (sC hA') pNil))))))) (stepV_ok tt_ok rfl) rfl ?_
        replace h := bsome h; obtain ⟨⟨v188, zbc, zbd⟩, h, hg188⟩ := h
        refine k_split (t := 178) rfl (fun hc => ?_) (fun hc => ?_)
        · replace h := ct hc h
          refine k_val rfl rfl rfl (pSub (pH (pH (pH (pApp (sC hA') (pApp (sC hA') (pApp (sC hA') pNil))))))) (stepV_ok tt_ok rfl) rfl ?_
          refine k_val (v := .agg #[.int .u64 p0.Seed, .int .u8 p0.Player, .int .u8 p0.Window, .slice p0a0 p0n0 p0c0, .slice p0a1 p0n1 p0c1]) rfl rfl rfl (pSub (pH (pH (pH (pApp (sC hA') (pApp (sC hA') (pApp (sC hA') pNil))))))) (val_load tt_ok rfl (mH) rfl) rfl ?_
          refine k_val rfl rfl rfl (pSub (pH (pH (pH (pApp (sC hA') (pApp (sC hA') (pApp (sC hA') pNil))))))) (stepV_ok tt_ok rfl) rfl ?_
          refine k_val rfl rfl rfl (pSub (pH (pH (pH (pApp (sC hA') (pApp (sC hA') (pApp (sC hA') pNil))))))) (stepV_ok tt_ok rfl) rfl ?_
          refine k_val rfl rfl rfl (pSub (pH (pH (pH (pApp (sC hA') (pApp (sC hA') (pApp (sC hA') pNil))))))) (stepV_ok tt_ok rfl) rfl ?_
          replace h := bsome h; obtain ⟨⟨zi, v180⟩, x180, h⟩ := h; try dsimp only at h
          refine k_cs rfl rfl rfl Tryd.call11 rfl rfl rfl (s_sp (k_rollback_Engine_Shown (p0 := (T_rollback_Engine.mk zr zs (T_api_State.mk zn zo zp zb zk) zc)) (p0_4 := zg) (p0_5 := zq) zt zu zw zx zbf zbg zby zbx x180) (pCons (sC hC) (pApp (sC (sC (sC hA'))) (pApp (sC (sC (sC hA'))) (pCons (sC hC) (pApp (sC (sC hA')) (pCons (sC hC) (pApp (sC hA') pNil))))))) (fun w hI => ⟨(Rds.call G0S (pCons (sC hC) (pApp (sC (sC (sC hA'))) (pApp (sC (sC (sC hA'))) (pCons (sC hC) (pApp (sC (sC hA')) (pCons (sC hC) (pApp (sC hA') pNil))))))) rsub_nil) w hI, (Rds.call G1S (pCons (sC hC) (pApp (sC (sC (sC hA'))) (pApp (sC (sC (sC hA'))) (pCons (sC hC) (pApp (sC (sC hA')) (pCons (sC hC) (pApp (sC hA') pNil))))))) rsub_nil) w hI⟩)) rfl (.inr (by rintro _ _ ⟨_, ⟨_, _, _, _, _, _, _, _, _, _, rfl, rfl⟩, rfl⟩; exact ⟨_, (pCons (sC (sA (sA (sC (sA (sC (sA (sA hC)))))))) (pH (pCons (sA (sA hC)) (pA (pA (pA pNil))))))⟩)) ?_
          rintro _ _ ⟨_, ⟨zbb, zba, v180a0, v180n0, v180c0, v180B0, zaz, zay, v180N0, v180V0, rfl, rfl⟩, rfl⟩
          replace h := bsome h; obtain ⟨v185, x185, h⟩ := h
          refine k_cs rfl rfl rfl Tryd.call22 rfl rfl rfl (s_sp (k_hindcastlaw26_Game_shown (p0 := p0) p0N0 p0H0 p0N1 p0H1 x185) pNil (fun w hI => ⟨(Rds.call p0S0 pNil rsub_nil) w hI, (Rds.call p0S1 pNil rsub_nil) w hI, (Rds.call G0S pNil rsub_nil) w hI, (Rds.call G1S pNil rsub_nil) w hI⟩)) rfl (.inr (by rintro _ _ ⟨_, ⟨_, _, _, _, _, _, rfl, rfl⟩, rfl⟩; exact ⟨_, (pCons (sA (sC (sA (sA (sC (sA (sC (sA (sA hC))))))))) (pCons (sA hC) (pCons (sA (sA (sA hC))) (pApp (sA hA') (pApp (sA hA') (pApp (sA hA') pNil))))))⟩)) ?_
          rintro _ _ ⟨_, ⟨v185a0, v185n0, v185c0, v185B0, v185N0, v185V0, rfl, rfl⟩, rfl⟩
          replace h := bsome h; obtain ⟨v186, x186, h⟩ := h
          refine k_cq rfl rfl rfl Tryd.call14 rfl rfl rfl (q_pf (k_state_Same (p0 := v180) (p1 := v185) v180N0 (vec_cap v180V0) v185N0 (vec_cap v185V0) x186) (fun w hI => ⟨(Rds.call (Rds.of_vec v180V0) pNil ⟨_, (sA (sC (sA (sA (sC (sA (sC (sA hA'))))))))⟩) w hI, (Rds.call (Rds.of_vec v185V0) pNil ⟨_, hA'⟩) w hI⟩)) rfl (pSub (pCons (sA (sC (sA (sA (sC (sA (sC (sA (sA hC))))))))) (pCons (sA hC) (pCons (sA (sA (sA hC))) (pApp (sA hA') (pApp (sA hA') (pApp (sA hA') pNil))))))) ?_
          refine k_val (v := .bool (!v186)) rfl rfl rfl (pSub (pCons (sA (sC (sA (sA (sC (sA (sC (sA (sA hC))))))))) (pCons (sA hC) (pCons (sA (sA (sA hC))) (pApp (sA hA') (pApp (sA hA') (pApp (sA hA') pNil))))))) (stepV_ok tt_ok rfl) rfl ?_
          simp only [Option.some.injEq, Prod.mk.injEq] at h
          obtain ⟨rfl, rfl, rfl⟩ := h
          have h := hg188; clear hg188; try dsimp only at h
          refine k_val (v := .bool (!v186)) rfl rfl rfl (pSub (pCons (sA (sC (sA (sA (sC (sA (sC (sA (sA hC))))))))) (pCons (sA hC) (pCons (sA (sA (sA hC))) (pApp (sA hA') (pApp (sA hA') (pApp (sA hA') pNil))))))) (stepV_ok tt_ok rfl) rfl ?_
          refine k_end (by kernel_rfl) ?_
          refine wx_then (wc_cond rfl (fun hc => ?_) (fun hc => ?_))
          · replace h := ct hc h
            refine wc_seq (wc_region (wP rfl rfl (wl_nil (wx_then (wc_ret (wx_block_ret (wx_then_ret ?_)))))))
            obtain rfl := Option.some.inj h
            have h := hl29; clear hl29; try dsimp only [orE_l, orE_r] at h
            refine wx_then_ret (wx_block_ret (wx_then_ret ?_))
            obtain rfl := sI h
            exact wx_pf tt_ok (.inl rfl) Tryd.results5 (Res.tmp rfl Res.nil) rfl
          replace h := cf hc h
          refine wc_skip (wx_block (wx_then (wc_region (wP rfl rfl (wP (v := .int .i64 (IntKind.wrap .i64 (zy + (1 : Int)))) rfl rfl (wP rfl rfl (wl_nil ?_)))))))
          exact wx_round m29 (Nat.lt_succ_self m29) ⟨zm, zl, zca, (IntKind.wrap .i64 (zy + (1 : Int))), zr, zs, zn, zo, zp, zb, zk, zc, zg.first_, zg.l, zg.last, zi.size, zi.places, zak, zai, zal, zaj, zat, zam, zau, zas, zcd, zcf, zce, zcc, zbb, zba, h, zt, zu, zw, zx, zbf, zbg, zaz, zay, rfl, rfl⟩ (agree_cons rfl (agree_cons rfl (agree_cons rfl (agree_cons rfl (agree_cons rfl (agree_cons rfl (agree_cons rfl (agree_cons rfl (agree_cons rfl agree_nil))))))))) (pSub (pCons (sA (sC (sA (sA (sC (sA (sC (sA (sA hC))))))))) (pCons (sA hC) (pCons (sA (sA (sA hC))) (pCons (sA (sA (sA (sA hC)))) (pApp (sA hA') (pApp (sA hA') (pApp (sA hA') (pApp (sA hA') pNil)))))))))
        replace h := cf hc h
        refine k_skip rfl rfl (pSub (pH (pH (pH (pApp (sC hA') (pApp (sC hA') (pApp (sC hA') pNil))))))) rfl ?_
        refine k_skip rfl rfl (pSub (pH (pH (pH (pApp (sC hA') (pApp (sC hA') (pApp (sC hA') pNil))))))) rfl ?_
        refine k_skip rfl rfl (pSub (pH (pH (pH (pApp (sC hA') (pApp (sC hA') (pApp (sC hA') pNil))))))) rfl ?_
        refine k_skip rfl rfl (pSub (pH (pH (pH (pApp (sC hA') (pApp (sC hA') (pApp (sC hA') pNil))))))) rfl ?_
        refine k_skip rfl rfl (pSub (pH (pH (pH (pApp (sC hA') (pApp (sC hA') (pApp (sC hA') pNil))))))) rfl ?_
        refine k_skip rfl rfl (pSub (pH (pH (pH (pApp (sC hA') (pApp (sC hA') (pApp (sC hA') pNil))))))) rfl ?_
        refine k_skip rfl rfl (pSub (pH (pH (pH (pApp (sC hA') (pApp (sC hA') (pApp (sC hA') pNil))))))) rfl ?_
        refine k_skip rfl rfl (pSub (pH (pH (pH (pApp (sC hA') (pApp (sC hA') (pApp (sC hA') pNil))))))) rfl ?_
        refine k_skip rfl rfl (pSub (pH (pH (pH (pApp (sC hA') (pApp (sC hA') (pApp (sC hA') pNil))))))) rfl ?_
        simp only [Option.some.injEq, Prod.mk.injEq] at h
        obtain ⟨rfl, rfl, rfl⟩ := h
        have h := hg188; clear hg188; try dsimp only at h
        refine k_val (v := .bool false) rfl rfl rfl (pSub (pH (pH (pH (pApp (sC hA') (pApp (sC hA') (pApp (sC hA') pNil))))))) (stepV_ok tt_ok rfl) rfl ?_
        refine k_end (by kernel_rfl) ?_
        refine wx_then ?_
        replace h := cf rfl h
        refine wc_cond_false rfl ?_
        refine wc_skip (wx_block (wx_then (wc_region (wP rfl rfl (wP (v := .int .i64 (IntKind.wrap .i64 (zy + (1 : Int)))) rfl rfl (wP rfl rfl (wl_nil ?_)))))))
        exact wx_round m29 (Nat.lt_succ_self m29) ⟨zm, zl, zca, (IntKind.wrap .i64 (zy + (1 : Int))), zr, zs, zn, zo, zp, zb, zk, zc, zg.first_, zg.l, zg.last, zq.size, zq.places, zak, zai, zal, zaj, zat, zam, zau, zas, zcd, zcf, zce, zcc, zcw, zcv, h, zt, zu, zw, zx, zbf, zbg, zby, zbx, rfl, rfl⟩ (agree_cons rfl (agree_cons rfl (agree_cons rfl (agree_cons rfl (agree_cons rfl (agree_cons rfl (agree_cons rfl (agree_cons rfl (agree_cons rfl agree_nil))))))))) (pSub (pH (pH (pH (pH (pA (pA (pA (pA pNil)))))))))
      replace h := cf hc h
      refine wl_skip rfl rfl (wl_skip rfl rfl (wl_skip rfl rfl ?_))
      obtain rfl := sI h
      have h := hg139; clear hg139
      refine wP (v := .bool false) rfl rfl (wl_nil (wx_then ?_))
      replace h := bsome h; obtain ⟨zca, h, hj76⟩ := h
      refine wc_join2 (fun E L => E = [(1, .slice p1a0 p1n0 p1c0), (2, .pointer (some ⟨b2, 0, none⟩)), (4, .bool false), (5, .int .i64 (IntKind.wrap .i64 ((1 : Int) + (IntKind.wrap .i64 (Int.tmod p0.Window 12))))), (6, .pointer (some ⟨zv, 0, none⟩)), (7, .int .i64 zm), (8, .int .i64 zl), (9, .int .i64 zca), (10, .int .i64 zy), (11, .int .i64 (IntKind.wrap .i64 (IntKind.wrap .u8 (Int.tdiv v56 4)))), (13, .int .i64 (max (0 : Int) (IntKind.wrap .i64 ((IntKind.wrap .i64 (zz + (1 : Int))) - (Int.tmod (IntKind.wrap .i64 (IntKind.wrap .u8 (Int.tdiv v56 4))) 4))))), (14, .int .i64 v132)] ∧ L = (⟨b2, [.int .u64 p0.Seed, .int .u8 p0.Player, .int .u8 p0.Window, .slice p0a0 p0n0 p0c0, .slice p0a1 p0n1 p0c1], 25, (0, 0)⟩ :: (⟨zv, (.int .u8 zr :: .int .i64 zs :: .int .u64 zn :: .int .u64 zo :: pl14 zp [.slice zak zai zal, .int .u16 zk.1, .int .u16 zk.2, .slice zat zam zau, .pointer (some ⟨zav, 0, none⟩), .pointer (some ⟨zbw, 0, none⟩)]), 55, (0, 0)⟩ :: (⟨zav, [.int .u64 zg.first_, .slice zcd zcf zce, .int .u8 zg.last], 94, (0, 0)⟩ :: (⟨zbw, ([.int .i64 zq.size] ++ flat cg_T_ring_place zcw), 99, (0, 0)⟩ :: (zaj ++ (zas ++ (zcc ++ (zcv ++ []))))))))) ?_ ?_
      · replace h := cf rfl h
        refine wc_cond_false rfl ?_
        refine wc_skip ?_
        obtain rfl := sI h
        exact wx_join ⟨rfl, rfl⟩ (agree_cons rfl (agree_cons rfl (agree_cons rfl (agree_cons rfl (agree_cons rfl (agree_cons rfl (agree_cons rfl (agree_cons rfl (agree_cons rfl (agree_cons rfl (agree_cons rfl (agree_cons rfl agree_nil)))))))))))) (pSub (pCons (sC (sA (sA (sC (sA (sC (sA hC))))))) (pH (pCons (sA (sA hC)) (pCons (sA (sA (sA hC))) (pA (pA (pA (pA pNil)))))))))
      rintro _ _ ⟨rfl, rfl⟩
      have h := hj76; clear hj76
      refine wc_seq (wc_region (wP rfl rfl (wP (v := .bool (v132 != (0 : Int))) rfl rfl (wP rfl rfl ?_))))
      replace h := bsome h; obtain ⟨v148, h, hg148⟩ := h
      refine wl_split (t := 144) rfl (fun hc => ?_) (fun hc => ?_)
      · replace h := ct hc h
        refine wl_run rfl (wP rfl rfl (wl_run rfl (wP rfl rfl (wl_run rfl (wP (v := .bool (decide ((max (0 : Int) (IntKind.wrap .i64 ((IntKind.wrap .i64 (zz + (1 : Int))) - (Int.tmod (IntKind.wrap .i64 (IntKind.wrap .u8 (Int.tdiv v56 4))) 4)))) < zca))) rfl rfl ?_)))))
        obtain rfl := sI h
        have h := hg148; clear hg148
        refine wP (v := .bool (decide ((max (0 : Int) (IntKind.wrap .i64 ((IntKind.wrap .i64 (zz + (1 : Int))) - (Int.tmod (IntKind.wrap .i64 (IntKind.wrap .u8 (Int.tdiv v56 4))) 4)))) < zca))) rfl rfl (wl_nil (wx_then (wc_cond rfl (fun hc => ?_) (fun hc => ?_))))
        · replace h := ct hc h
          refine wc_seq (wc_region (wP rfl rfl (wl_nil (wx_then (wc_ret (wx_block_ret (wx_then_ret (wx_block_ret (wx_then_ret ?_)))))))))
          obtain rfl := Option.some.inj h
          have h := hl29; clear hl29; try dsimp only [orE_l, orE_r] at h
          refine wx_then_ret (wx_block_ret (wx_then_ret ?_))
          obtain rfl := sI h
          exact wx_pf tt_ok (.inl rfl) Tryd.results5 (Res.tmp rfl Res.nil) rfl
        replace h := cf hc h
        refine wc_skip (wx_block (wx_then (wc_seq (wc_seq (wc_region (wP rfl rfl ?_))))))
        replace h := bsome h; obtain ⟨v150, x150, h⟩ := h
        refine wl_cq Tryd.call16 rfl rfl rfl (q_rd (k_rollback_Engine_C (p0 := (T_rollback_Engine.mk zr zs (T_api_State.mk zn zo zp zb zk) zc)) (p0_4 := zg) (p0_5 := zq) zt zu zw zx zbf zbg zby zbx x150) (pCons (sC hC) (pApp (sC (sC (sC hA'))) (pApp (sC (sC (sC hA'))) (pCons (sC hC) (pApp (sC (sC hA')) (pCons (sC hC) (pApp (sC hA') pNil))))))) (fun _ _ => trivial)) rfl ?_
        refine wP rfl rfl (wP (v := .int .u64 (IntKind.wrap .u64 zm)) rfl rfl (wP (v := .bool (v150 != (IntKind.wrap .u64 zm))) rfl rfl (wP rfl rfl ?_)))
        replace h := bsome h; obtain ⟨v160, h, hg160⟩ := h
        refine wl_split (t := 154) rfl (fun hc => ?_) (fun hc => ?_)
        · replace h := ct hc h
          refine wl_skip rfl rfl (wl_skip rfl rfl (wl_skip rfl rfl (wl_skip rfl rfl (wl_skip rfl rfl ?_))))
          obtain rfl := sI h
          have h := hg160; clear hg160
          refine wP (v := .bool true) rfl rfl (wP rfl rfl ?_)
          replace h := bsome h; obtain ⟨v167, h, hg167⟩ := h
          replace h := ct rfl h
          refine wl_skip rfl rfl (wl_skip rfl rfl (wl_skip rfl rfl (wl_skip rfl rfl (wl_skip rfl rfl ?_))))
          obtain rfl := sI h
          have h := hg167; clear hg167
          refine wP (v := .bool true) rfl rfl (wP rfl rfl ?_)
          replace h := bsome h; obtain ⟨v174, h, hg174⟩ := h
          replace h := ct rfl h
          refine wl_skip rfl rfl (wl_skip rfl rfl (wl_skip rfl rfl (wl_skip rfl rfl (wl_skip rfl rfl ?_))))
          obtain rfl := sI h
          have h := hg174; clear hg174
          refine wP (v := .bool true) rfl rfl (wl_nil (wx_then ?_))
          replace h := ct rfl h
          refine wc_cond_true rfl ?_
          refine wc_seq (wc_region (wP rfl rfl (wl_nil (wx_then (wc_ret (wx_then_ret (wx_block_ret (wx_then_ret ?_))))))))
          obtain rfl := Option.some.inj h
          have h := hl29; clear hl29; try dsimp only [orE_l, orE_r] at h
          refine wx_then_ret (wx_block_ret (wx_then_ret ?_))
          obtain rfl := sI h
          exact wx_pf tt_ok (.inl rfl) Tryd.results5 (Res.tmp rfl Res.nil) rfl
        replace h := cf hc h
        refine wl_run rfl (wP rfl rfl ?_)
        replace h := bsome h; obtain ⟨v156, x156, h⟩ := h
        refine wl_run rfl (wl_cq Tryd.call17 rfl rfl rfl (q_rd (k_rollback_Engine_T (p0 := (T_rollback_Engine.mk zr zs (T_api_State.mk zn zo zp zb zk) zc)) (p0_4 := zg) (p0_5 := zq) zt zu zw zx zbf zbg zby zbx x156) (pCons (sC hC) (pApp (sC (sC (sC hA'))) (pApp (sC (sC (sC hA'))) (pCons (sC hC) (pApp (sC (sC hA')) (pCons (sC hC) (pApp (sC hA') pNil))))))) (fun _ _ => trivial)) rfl (wl_run rfl (wP rfl rfl (wl_run rfl (wP (v := .int .u64 (IntKind.wrap .u64 zl)) rfl rfl ?_)))))
        refine wl_run rfl (wP (v := .bool (v156 != (IntKind.wrap .u64 zl))) rfl rfl ?_)
        obtain rfl := sI h
        have h := hg160; clear hg160
        refine wP (v := .bool (v156 != (IntKind.wrap .u64 zl))) rfl rfl (wP rfl rfl ?_)
        replace h := bsome h; obtain ⟨v167, h, hg167⟩ := h
        refine wl_split (t := 161) rfl (fun hc => ?_) (fun hc => ?_)
        · replace h := ct hc h
          refine wl_skip rfl rfl (wl_skip rfl rfl (wl_skip rfl rfl (wl_skip rfl rfl (wl_skip rfl rfl ?_))))
          obtain rfl := sI h
          have h := hg167; clear hg167
          refine wP (v := .bool true) rfl rfl (wP rfl rfl ?_)
          replace h := bsome h; obtain ⟨v174, h, hg174⟩ := h
          replace h := ct rfl h
          refine wl_skip rfl rfl (wl_skip rfl rfl (wl_skip rfl rfl (wl_skip rfl rfl (wl_skip rfl rfl ?_))))
          obtain rfl := sI h
          have h := hg174; clear hg174
          refine wP (v := .bool true) rfl rfl (wl_nil (wx_then ?_))
          replace h := ct rfl h
          refine wc_cond_true rfl ?_
          refine wc_seq (wc_region (wP rfl rfl (wl_nil (wx_then (wc_ret (wx_then_ret (wx_block_ret (wx_then_ret ?_))))))))
          obtain rfl := Option.some.inj h
          have h := hl29; clear hl29; try dsimp only [orE_l, orE_r] at h
          refine wx_then_ret (wx_block_ret (wx_then_ret ?_))
          obtain rfl := sI h
          exact wx_pf tt_ok (.inl rfl) Tryd.results5 (Res.tmp rfl Res.nil) rfl
        replace h := cf hc h
        refine wl_run rfl (wP rfl rfl ?_)
        replace h := bsome h; obtain ⟨v163, x163, h⟩ := h
        refine wl_run rfl (wl_cq Tryd.call19 rfl rfl rfl (q_rd (k_rollback_Engine_Known (p0 := (T_rollback_Engine.mk zr zs (T_api_State.mk zn zo zp zb zk) zc)) (p0_4 := zg) (p0_5 := zq) zt zu zw zx zbf zbg zby zbx x163) (pCons (sC hC) (pApp (sC (sC (sC hA'))) (pApp (sC (sC (sC hA'))) (pCons (sC hC) (pApp (sC (sC hA')) (pCons (sC hC) (pApp (sC hA') pNil))))))) (fun _ _ => trivial)) rfl (wl_run rfl (wP rfl rfl (wl_run rfl (wP (v := .int .u64 (IntKind.wrap .u64 zca)) rfl rfl ?_)))))
        refine wl_run rfl (wP (v := .bool (v163 != (IntKind.wrap .u64 zca))) rfl rfl ?_)
        obtain rfl := sI h
        have h := hg167; clear hg167
        refine wP (v := .bool (v163 != (IntKind.wrap .u64 zca))) rfl rfl (wP rfl rfl ?_)
        replace h := bsome h; obtain ⟨v174, h, hg174⟩ := h
        refine wl_split (t := 168) rfl (fun hc => ?_) (fun hc => ?_)
        · replace h := ct hc h
          refine wl_skip rfl rfl (wl_skip rfl rfl (wl_skip rfl rfl (wl_skip rfl rfl (wl_skip rfl rfl ?_))))
          obtain rfl := sI h
          have h := hg174; clear hg174
          refine wP (v := .bool true) rfl rfl (wl_nil (wx_then ?_))
          replace h := ct rfl h
          refine wc_cond_true rfl ?_
          refine wc_seq (wc_region (wP rfl rfl (wl_nil (wx_then (wc_ret (wx_then_ret (wx_block_ret (wx_then_ret ?_))))))))
          obtain rfl := Option.some.inj h
          have h := hl29; clear hl29; try dsimp only [orE_l, orE_r] at h
          refine wx_then_ret (wx_block_ret (wx_then_ret ?_))
          obtain rfl := sI h
          exact wx_pf tt_ok (.inl rfl) Tryd.results5 (Res.tmp rfl Res.nil) rfl
        replace h := cf hc h
        refine wl_run rfl (wP rfl rfl (wl_run rfl (wP rfl rfl (wl_run rfl (wP (v := .int .i64 (IntKind.wrap .i64 (zl - zm))) rfl rfl (wl_run rfl (wP rfl rfl (wl_run rfl (wP (v := .bool (decide ((IntKind.wrap .i64 ((1 : Int) + (IntKind.wrap .i64 (Int.tmod p0.Window 12)))) < (IntKind.wrap .i64 (zl - zm))))) rfl rfl ?_)))))))))
        obtain rfl := sI h
        have h := hg174; clear hg174
        refine wP (v := .bool (decide ((IntKind.wrap .i64 ((1 : Int) + (IntKind.wrap .i64 (Int.tmod p0.Window 12)))) < (IntKind.wrap .i64 (zl - zm))))) rfl rfl (wl_nil (wx_then (wc_cond rfl (fun hc => ?_) (fun hc => ?_))))
        · replace h := ct hc h
          refine wc_seq (wc_region (wP rfl rfl (wl_nil (wx_then (wc_ret (wx_then_ret (wx_block_ret (wx_then_ret ?_))))))))
          obtain rfl := Option.some.inj h
          have h := hl29; clear hl29; try dsimp only [orE_l, orE_r] at h
          refine wx_then_ret (wx_block_ret (wx_then_ret ?_))
          obtain rfl := sI h
          exact wx_pf tt_ok (.inl rfl) Tryd.results5 (Res.tmp rfl Res.nil) rfl
        replace h := cf hc h
        refine wc_skip (wx_then (wc_seq (wc_k2 (Ls := (⟨b2, [.int .u64 p0.Seed, .int .u8 p0.Player, .int .u8 p0.Window, .slice p0a0 p0n0 p0c0, .slice p0a1 p0n1 p0c1], 25, (0, 0)⟩ :: (⟨zv, (.int .u8 zr :: .int .i64 zs :: .int .u64 zn :: .int .u64 zo :: pl14 zp [.slice zak zai zal, .int .u16 zk.1, .int .u16 zk.2, .slice zat zam zau, .pointer (some ⟨zav, 0, none⟩), .pointer (some ⟨zbw, 0, none⟩)]), 55, (0, 0)⟩ :: (⟨zav, [.int .u64 zg.first_, .slice zcd zcf zce, .int .u8 zg.last], 94, (0, 0)⟩ :: (zaj ++ (zas ++ (zcc ++ []))))))) [5, 10, 11] [] [0, 1, 3, 7, 15, 31, 15, 15, 15, 15, 1023, 2047, 4095, 8191] [0, 1, 2, 3, 4, 6, 7, 8, 9, 5, 10, 11, 12, 13] (by kernel_rfl) (by kernel_rfl) (by kernel_rfl) ?_)))
        refine k_val rfl rfl rfl (pSub (pH (pH (pH (pApp (sC hA') (pApp (sC hA') (pApp (sC hA') pNil))))))) (stepV_ok tt_ok rfl) rfl ?_
        refine k_val (v := .int .i64 (Int.tmod (IntKind.wrap .i64 (IntKind.wrap .u8 (Int.tdiv v56 4))) 3)) rfl rfl rfl (pSub (pH (pH (pH (pApp (sC hA') (pApp (sC hA') (pApp (sC hA') pNil))))))) (stepV_ok tt_ok rfl) rfl ?_
        refine k_val (v := .bool ((Int.tmod (IntKind.wrap .i64 (IntKind.wrap .u8 (Int.tdiv v56 4))) 3) == (0 : Int))) rfl rfl rfl (pSub (pH (pH (pH (pApp (sC hA') (pApp (sC hA') (pApp (sC hA') pNil))))))) (stepV_ok tt_ok rfl) rfl ?_
        refine k_val rfl rfl rfl (pSub (pH (pH (pH (pApp (sC hA') (pApp (sC hA') (pApp (sC hA') pNil))))))) (stepV_ok tt_ok rfl) rfl ?_
        replace h := bsome h; obtain ⟨⟨v188, zbc, zbd⟩, h, hg188⟩ := h
        refine k_split (t := 178) rfl (fun hc => ?_) (fun hc => ?_)
        · replace h := ct hc h
          refine k_val rfl rfl rfl (pSub (pH (pH (pH (pApp (sC hA') (pApp (sC hA') (pApp (sC hA') pNil))))))) (stepV_ok tt_ok rfl) rfl ?_
          refine k_val (v := .agg #[.int .u64 p0.Seed, .int .u8 p0.Player, .int .u8 p0.Window, .slice p0a0 p0n0 p0c0, .slice p0a1 p0n1 p0c1]) rfl rfl rfl (pSub (pH (pH (pH (pApp (sC hA') (pApp (sC hA') (pApp (sC hA') pNil))))))) (val_load tt_ok rfl (mH) rfl) rfl ?_
          refine k_val rfl rfl rfl (pSub (pH (pH (pH (pApp (sC hA') (pApp (sC hA') (pApp (sC hA') pNil))))))) (stepV_ok tt_ok rfl) rfl ?_
          refine k_val rfl rfl rfl (pSub (pH (pH (pH (pApp (sC hA') (pApp (sC hA') (pApp (sC hA') pNil))))))) (stepV_ok tt_ok rfl) rfl ?_
          refine k_val rfl rfl rfl (pSub (pH (pH (pH (pApp (sC hA') (pApp (sC hA') (pApp (sC hA') pNil))))))) (stepV_ok tt_ok rfl) rfl ?_
          replace h := bsome h; obtain ⟨⟨zi, v180⟩, x180, h⟩ := h; try dsimp only at h
          refine k_cs rfl rfl rfl Tryd.call11 rfl rfl rfl (s_sp (k_rollback_Engine_Shown (p0 := (T_rollback_Engine.mk zr zs (T_api_State.mk zn zo zp zb zk) zc)) (p0_4 := zg) (p0_5 := zq) zt zu zw zx zbf zbg zby zbx x180) (pCons (sC hC) (pApp (sC (sC (sC hA'))) (pApp (sC (sC (sC hA'))) (pCons (sC hC) (pApp (sC (sC hA')) (pCons (sC hC) (pApp (sC hA') pNil))))))) (fun w hI => ⟨(Rds.call G0S (pCons (sC hC) (pApp (sC (sC (sC hA'))) (pApp (sC (sC (sC hA'))) (pCons (sC hC) (pApp (sC (sC hA')) (pCons (sC hC) (pApp (sC hA') pNil))))))) rsub_nil) w hI, (Rds.call G1S (pCons (sC hC) (pApp (sC (sC (sC hA'))) (pApp (sC (sC (sC hA'))) (pCons (sC hC) (pApp (sC (sC hA')) (pCons (sC hC) (pApp (sC hA') pNil))))))) rsub_nil) w hI⟩)) rfl (.inr (by rintro _ _ ⟨_, ⟨_, _, _, _, _, _, _, _, _, _, rfl, rfl⟩, rfl⟩; exact ⟨_, (pCons (sC (sA (sA (sC (sA (sC (sA (sA hC)))))))) (pH (pCons (sA (sA hC)) (pA (pA (pA pNil))))))⟩)) ?_
          rintro _ _ ⟨_, ⟨zbb, zba, v180a0, v180n0, v180c0, v180B0, zaz, zay, v180N0, v180V0, rfl, rfl⟩, rfl⟩
          replace h := bsome h; obtain ⟨v185, x185, h⟩ := h
          refine k_cs rfl rfl rfl Tryd.call22 rfl rfl rfl (s_sp (k_hindcastlaw26_Game_shown (p0 := p0) p0N0 p0H0 p0N1 p0H1 x185) pNil (fun w hI => ⟨(Rds.call p0S0 pNil rsub_nil) w hI, (Rds.call p0S1 pNil rsub_nil) w hI, (Rds.call G0S pNil rsub_nil) w hI, (Rds.call G1S pNil rsub_nil) w hI⟩)) rfl (.inr (by rintro _ _ ⟨_, ⟨_, _, _, _, _, _, rfl, rfl⟩, rfl⟩; exact ⟨_, (pCons (sA (sC (sA (sA (sC (sA (sC (sA (sA hC))))))))) (pCons (sA hC) (pCons (sA (sA (sA hC))) (pApp (sA hA') (pApp (sA hA') (pApp (sA hA') pNil))))))⟩)) ?_
          rintro _ _ ⟨_, ⟨v185a0, v185n0, v185c0, v185B0, v185N0, v185V0, rfl, rfl⟩, rfl⟩
          replace h := bsome h; obtain ⟨v186, x186, h⟩ := h
          refine k_cq rfl rfl rfl Tryd.call14 rfl rfl rfl (q_pf (k_state_Same (p0 := v180) (p1 := v185) v180N0 (vec_cap v180V0) v185N0 (vec_cap v185V0) x186) (fun w hI => ⟨(Rds.call (Rds.of_vec v180V0) pNil ⟨_, (sA (sC (sA (sA (sC (sA (sC (sA hA'))))))))⟩) w hI, (Rds.call (Rds.of_vec v185V0) pNil ⟨_, hA'⟩) w hI⟩)) rfl (pSub (pCons (sA (sC (sA (sA (sC (sA (sC (sA (sA hC))))))))) (pCons (sA hC) (pCons (sA (sA (sA hC))) (pApp (sA hA') (pApp (sA hA') (pApp (sA hA') pNil))))))) ?_
          refine k_val (v := .bool (!v186)) rfl rfl rfl (pSub (pCons (sA (sC (sA (sA (sC (sA (sC (sA (sA hC))))))))) (pCons (sA hC) (pCons (sA (sA (sA hC))) (pApp (sA hA') (pApp (sA hA') (pApp (sA hA') pNil))))))) (stepV_ok tt_ok rfl) rfl ?_
          simp only [Option.some.injEq, Prod.mk.injEq] at h
          obtain ⟨rfl, rfl, rfl⟩ := h
          have h := hg188; clear hg188; try dsimp only at h
          refine k_val (v := .bool (!v186)) rfl rfl rfl (pSub (pCons (sA (sC (sA (sA (sC (sA (sC (sA (sA hC))))))))) (pCons (sA hC) (pCons (sA (sA (sA hC))) (pApp (sA hA') (pApp (sA hA') (pApp (sA hA') pNil))))))) (stepV_ok tt_ok rfl) rfl ?_
          refine k_end (by kernel_rfl) ?_
          refine wx_then (wc_cond rfl (fun hc => ?_) (fun hc => ?_))
          · replace h := ct hc h
            refine wc_seq (wc_region (wP rfl rfl (wl_nil (wx_then (wc_ret (wx_block_ret (wx_then_ret ?_)))))))
            obtain rfl := Option.some.inj h
            have h := hl29; clear hl29; try dsimp only [orE_l, orE_r] at h
            refine wx_then_ret (wx_block_ret (wx_then_ret ?_))
            obtain rfl := sI h
            exact wx_pf tt_ok (.inl rfl) Tryd.results5 (Res.tmp rfl Res.nil) rfl
          replace h := cf hc h
          refine wc_skip (wx_block (wx_then (wc_region (wP rfl rfl (wP (v := .int .i64 (IntKind.wrap .i64 (zy + (1 : Int)))) rfl rfl (wP rfl rfl (wl_nil ?_)))))))
          exact wx_round m29 (Nat.lt_succ_self m29) ⟨zm, zl, zca, (IntKind.wrap .i64 (zy + (1 : Int))), zr, zs, zn, zo, zp, zb, zk, zc, zg.first_, zg.l, zg.last, zi.size, zi.places, zak, zai, zal, zaj, zat, zam, zau, zas, zcd, zcf, zce, zcc, zbb, zba, h, zt, zu, zw, zx, zbf, zbg, zaz, zay, rfl, rfl⟩ (agree_cons rfl (agree_cons rfl (agree_cons rfl (agree_cons rfl (agree_cons rfl (agree_cons rfl (agree_cons rfl (agree_cons rfl (agree_cons rfl agree_nil))))))))) (pSub (pCons (sA (sC (sA (sA (sC (sA (sC (sA (sA hC))))))))) (pCons (sA hC) (pCons (sA (sA (sA hC))) (pCons (sA (sA (sA (sA hC)))) (pApp (sA hA') (pApp (sA hA') (pApp (sA hA') (pApp (sA hA') pNil)))))))))
        replace h := cf hc h
        refine k_skip rfl rfl (pSub (pH (pH (pH (pApp (sC hA') (pApp (sC hA') (pApp (sC hA') pNil))))))) rfl ?_
        refine k_skip rfl rfl (pSub (pH (pH (pH (pApp (sC hA') (pApp (sC hA') (pApp (sC hA') pNil))))))) rfl ?_
        refine k_skip rfl rfl (pSub (pH (pH (pH (pApp (sC hA') (pApp (sC hA') (pApp (sC hA') pNil))))))) rfl ?_
        refine k_skip rfl rfl (pSub (pH (pH (pH (pApp (sC hA') (pApp (sC hA') (pApp (sC hA') pNil))))))) rfl ?_
        refine k_skip rfl rfl (pSub (pH (pH (pH (pApp (sC hA') (pApp (sC hA') (pApp (sC hA') pNil))))))) rfl ?_
        refine k_skip rfl rfl (pSub (pH (pH (pH (pApp (sC hA') (pApp (sC hA') (pApp (sC hA') pNil))))))) rfl ?_
        refine k_skip rfl rfl (pSub (pH (pH (pH (pApp (sC hA') (pApp (sC hA') (pApp (sC hA') pNil))))))) rfl ?_
        refine k_skip rfl rfl (pSub (pH (pH (pH (pApp (sC hA') (pApp (sC hA') (pApp (sC hA') pNil))))))) rfl ?_
        refine k_skip rfl rfl (pSub (pH (pH (pH (pApp (sC hA') (pApp (sC hA') (pApp (sC hA') pNil))))))) rfl ?_
        simp only [Option.some.injEq, Prod.mk.injEq] at h
        obtain ⟨rfl, rfl, rfl⟩ := h
        have h := hg188; clear hg188; try dsimp only at h
        refine k_val (v := .bool false) rfl rfl rfl (pSub (pH (pH (pH (pApp (sC hA') (pApp (sC hA') (pApp (sC hA') pNil))))))) (stepV_ok tt_ok rfl) rfl ?_
        refine k_end (by kernel_rfl) ?_
        refine wx_then ?_
        replace h := cf rfl h
        refine wc_cond_false rfl ?_
        refine wc_skip (wx_block (wx_then (wc_region (wP rfl rfl (wP (v := .int .i64 (IntKind.wrap .i64 (zy + (1 : Int)))) rfl rfl (wP rfl rfl (wl_nil ?_)))))))
        exact wx_round m29 (Nat.lt_succ_self m29) ⟨zm, zl, zca, (IntKind.wrap .i64 (zy + (1 : Int))), zr, zs, zn, zo, zp, zb, zk, zc, zg.first_, zg.l, zg.last, zq.size, zq.places, zak, zai, zal, zaj, zat, zam, zau, zas, zcd, zcf, zce, zcc, zcw, zcv, h, zt, zu, zw, zx, zbf, zbg, zby, zbx, rfl, rfl⟩ (agree_cons rfl (agree_cons rfl (agree_cons rfl (agree_cons rfl (agree_cons rfl (agree_cons rfl (agree_cons rfl (agree_cons rfl (agree_cons rfl agree_nil))))))))) (pSub (pH (pH (pH (pH (pA (pA (pA (pA pNil)))))))))
      replace h := cf hc h
      refine wl_skip rfl rfl (wl_skip rfl rfl (wl_skip rfl rfl ?_))
      obtain rfl := sI h
      have h := hg148; clear hg148
      refine wP (v := .bool false) rfl rfl (wl_nil (wx_then ?_))
      replace h := cf rfl h
      refine wc_cond_false rfl ?_
      refine wc_skip (wx_block (wx_then (wc_seq (wc_seq (wc_region (wP rfl rfl ?_))))))
      replace h := bsome h; obtain ⟨v150, x150, h⟩ := h
      refine wl_cq Tryd.call16 rfl rfl rfl (q_rd (k_rollback_Engine_C (p0 := (T_rollback_Engine.mk zr zs (T_api_State.mk zn zo zp zb zk) zc)) (p0_4 := zg) (p0_5 := zq) zt zu zw zx zbf zbg zby zbx x150) (pCons (sC hC) (pApp (sC (sC (sC hA'))) (pApp (sC (sC (sC hA'))) (pCons (sC hC) (pApp (sC (sC hA')) (pCons (sC hC) (pApp (sC hA') pNil))))))) (fun _ _ => trivial)) rfl ?_
      refine wP rfl rfl (wP (v := .int .u64 (IntKind.wrap .u64 zm)) rfl rfl (wP (v := .bool (v150 != (IntKind.wrap .u64 zm))) rfl rfl (wP rfl rfl ?_)))
      replace h := bsome h; obtain ⟨v160, h, hg160⟩ := h
      refine wl_split (t := 154) rfl (fun hc => ?_) (fun hc => ?_)
      · replace h := ct hc h
        refine wl_skip rfl rfl (wl_skip rfl rfl (wl_skip rfl rfl (wl_skip rfl rfl (wl_skip rfl rfl ?_))))
        obtain rfl := sI h
        have h := hg160; clear hg160
        refine wP (v := .bool true) rfl rfl (wP rfl rfl ?_)
        replace h := bsome h; obtain ⟨v167, h, hg167⟩ := h
        replace h := ct rfl h
        refine wl_skip rfl rfl (wl_skip rfl rfl (wl_skip rfl rfl (wl_skip rfl rfl (wl_skip rfl rfl ?_))))
        obtain rfl := sI h
        have h := hg167; clear hg167
        refine wP (v := .bool true) rfl rfl (wP rfl rfl ?_)
        replace h := bsome h; obtain ⟨v174, h, hg174⟩ := h
        replace h := ct rfl h
        refine wl_skip rfl rfl (wl_skip rfl rfl (wl_skip rfl rfl (wl_skip rfl rfl (wl_skip rfl rfl ?_))))
        obtain rfl := sI h
        have h := hg174; clear hg174
        refine wP (v := .bool true) rfl rfl (wl_nil (wx_then ?_))
        replace h := ct rfl h
        refine wc_cond_true rfl ?_
        refine wc_seq (wc_region (wP rfl rfl (wl_nil (wx_then (wc_ret (wx_then_ret (wx_block_ret (wx_then_ret ?_))))))))
        obtain rfl := Option.some.inj h
        have h := hl29; clear hl29; try dsimp only [orE_l, orE_r] at h
        refine wx_then_ret (wx_block_ret (wx_then_ret ?_))
        obtain rfl := sI h
        exact wx_pf tt_ok (.inl rfl) Tryd.results5 (Res.tmp rfl Res.nil) rfl
      replace h := cf hc h
      refine wl_run rfl (wP rfl rfl ?_)
      replace h := bsome h; obtain ⟨v156, x156, h⟩ := h
      refine wl_run rfl (wl_cq Tryd.call17 rfl rfl rfl (q_rd (k_rollback_Engine_T (p0 := (T_rollback_Engine.mk zr zs (T_api_State.mk zn zo zp zb zk) zc)) (p0_4 := zg) (p0_5 := zq) zt zu zw zx zbf zbg zby zbx x156) (pCons (sC hC) (pApp (sC (sC (sC hA'))) (pApp (sC (sC (sC hA'))) (pCons (sC hC) (pApp (sC (sC hA')) (pCons (sC hC) (pApp (sC hA') pNil))))))) (fun _ _ => trivial)) rfl (wl_run rfl (wP rfl rfl (wl_run rfl (wP (v := .int .u64 (IntKind.wrap .u64 zl)) rfl rfl ?_)))))
      refine wl_run rfl (wP (v := .bool (v156 != (IntKind.wrap .u64 zl))) rfl rfl ?_)
      obtain rfl := sI h
      have h := hg160; clear hg160
      refine wP (v := .bool (v156 != (IntKind.wrap .u64 zl))) rfl rfl (wP rfl rfl ?_)
      replace h := bsome h; obtain ⟨v167, h, hg167⟩ := h
      refine wl_split (t := 161) rfl (fun hc => ?_) (fun hc => ?_)
      · replace h := ct hc h
        refine wl_skip rfl rfl (wl_skip rfl rfl (wl_skip rfl rfl (wl_skip rfl rfl (wl_skip rfl rfl ?_))))
        obtain rfl := sI h
        have h := hg167; clear hg167
        refine wP (v := .bool true) rfl rfl (wP rfl rfl ?_)
        replace h := bsome h; obtain ⟨v174, h, hg174⟩ := h
        replace h := ct rfl h
        refine wl_skip rfl rfl (wl_skip rfl rfl (wl_skip rfl rfl (wl_skip rfl rfl (wl_skip rfl rfl ?_))))
        obtain rfl := sI h
        have h := hg174; clear hg174
        refine wP (v := .bool true) rfl rfl (wl_nil (wx_then ?_))
        replace h := ct rfl h
        refine wc_cond_true rfl ?_
        refine wc_seq (wc_region (wP rfl rfl (wl_nil (wx_then (wc_ret (wx_then_ret (wx_block_ret (wx_then_ret ?_))))))))
        obtain rfl := Option.some.inj h
        have h := hl29; clear hl29; try dsimp only [orE_l, orE_r] at h
        refine wx_then_ret (wx_block_ret (wx_then_ret ?_))
        obtain rfl := sI h
        exact wx_pf tt_ok (.inl rfl) Tryd.results5 (Res.tmp rfl Res.nil) rfl
      replace h := cf hc h
      refine wl_run rfl (wP rfl rfl ?_)
      replace h := bsome h; obtain ⟨v163, x163, h⟩ := h
      refine wl_run rfl (wl_cq Tryd.call19 rfl rfl rfl (q_rd (k_rollback_Engine_Known (p0 := (T_rollback_Engine.mk zr zs (T_api_State.mk zn zo zp zb zk) zc)) (p0_4 := zg) (p0_5 := zq) zt zu zw zx zbf zbg zby zbx x163) (pCons (sC hC) (pApp (sC (sC (sC hA'))) (pApp (sC (sC (sC hA'))) (pCons (sC hC) (pApp (sC (sC hA')) (pCons (sC hC) (pApp (sC hA') pNil))))))) (fun _ _ => trivial)) rfl (wl_run rfl (wP rfl rfl (wl_run rfl (wP (v := .int .u64 (IntKind.wrap .u64 zca)) rfl rfl ?_)))))
      refine wl_run rfl (wP (v := .bool (v163 != (IntKind.wrap .u64 zca))) rfl rfl ?_)
      obtain rfl := sI h
      have h := hg167; clear hg167
      refine wP (v := .bool (v163 != (IntKind.wrap .u64 zca))) rfl rfl (wP rfl rfl ?_)
      replace h := bsome h; obtain ⟨v174, h, hg174⟩ := h
      refine wl_split (t := 168) rfl (fun hc => ?_) (fun hc => ?_)
      · replace h := ct hc h
        refine wl_skip rfl rfl (wl_skip rfl rfl (wl_skip rfl rfl (wl_skip rfl rfl (wl_skip rfl rfl ?_))))
        obtain rfl := sI h
        have h := hg174; clear hg174
        refine wP (v := .bool true) rfl rfl (wl_nil (wx_then ?_))
        replace h := ct rfl h
        refine wc_cond_true rfl ?_
        refine wc_seq (wc_region (wP rfl rfl (wl_nil (wx_then (wc_ret (wx_then_ret (wx_block_ret (wx_then_ret ?_))))))))
        obtain rfl := Option.some.inj h
        have h := hl29; clear hl29; try dsimp only [orE_l, orE_r] at h
        refine wx_then_ret (wx_block_ret (wx_then_ret ?_))
        obtain rfl := sI h
        exact wx_pf tt_ok (.inl rfl) Tryd.results5 (Res.tmp rfl Res.nil) rfl
      replace h := cf hc h
      refine wl_run rfl (wP rfl rfl (wl_run rfl (wP rfl rfl (wl_run rfl (wP (v := .int .i64 (IntKind.wrap .i64 (zl - zm))) rfl rfl (wl_run rfl (wP rfl rfl (wl_run rfl (wP (v := .bool (decide ((IntKind.wrap .i64 ((1 : Int) + (IntKind.wrap .i64 (Int.tmod p0.Window 12)))) < (IntKind.wrap .i64 (zl - zm))))) rfl rfl ?_)))))))))
      obtain rfl := sI h
      have h := hg174; clear hg174
      refine wP (v := .bool (decide ((IntKind.wrap .i64 ((1 : Int) + (IntKind.wrap .i64 (Int.tmod p0.Window 12)))) < (IntKind.wrap .i64 (zl - zm))))) rfl rfl (wl_nil (wx_then (wc_cond rfl (fun hc => ?_) (fun hc => ?_))))
      · replace h := ct hc h
        refine wc_seq (wc_region (wP rfl rfl (wl_nil (wx_then (wc_ret (wx_then_ret (wx_block_ret (wx_then_ret ?_))))))))
        obtain rfl := Option.some.inj h
        have h := hl29; clear hl29; try dsimp only [orE_l, orE_r] at h
        refine wx_then_ret (wx_block_ret (wx_then_ret ?_))
        obtain rfl := sI h
        exact wx_pf tt_ok (.inl rfl) Tryd.results5 (Res.tmp rfl Res.nil) rfl
      replace h := cf hc h
      refine wc_skip (wx_then (wc_seq (wc_k2 (Ls := (⟨b2, [.int .u64 p0.Seed, .int .u8 p0.Player, .int .u8 p0.Window, .slice p0a0 p0n0 p0c0, .slice p0a1 p0n1 p0c1], 25, (0, 0)⟩ :: (⟨zv, (.int .u8 zr :: .int .i64 zs :: .int .u64 zn :: .int .u64 zo :: pl14 zp [.slice zak zai zal, .int .u16 zk.1, .int .u16 zk.2, .slice zat zam zau, .pointer (some ⟨zav, 0, none⟩), .pointer (some ⟨zbw, 0, none⟩)]), 55, (0, 0)⟩ :: (⟨zav, [.int .u64 zg.first_, .slice zcd zcf zce, .int .u8 zg.last], 94, (0, 0)⟩ :: (zaj ++ (zas ++ (zcc ++ []))))))) [5, 10, 11] [] [0, 1, 3, 7, 15, 31, 15, 15, 15, 15, 1023, 2047, 4095, 8191] [0, 1, 2, 3, 4, 6, 7, 8, 9, 5, 10, 11, 12, 13] (by kernel_rfl) (by kernel_rfl) (by kernel_rfl) ?_)))
      refine k_val rfl rfl rfl (pSub (pH (pH (pH (pApp (sC hA') (pApp (sC hA') (pApp (sC hA') pNil))))))) (stepV_ok tt_ok rfl) rfl ?_
      refine k_val (v := .int .i64 (Int.tmod (IntKind.wrap .i64 (IntKind.wrap .u8 (Int.tdiv v56 4))) 3)) rfl rfl rfl (pSub (pH (pH (pH (pApp (sC hA') (pApp (sC hA') (pApp (sC hA') pNil))))))) (stepV_ok tt_ok rfl) rfl ?_
      refine k_val (v := .bool ((Int.tmod (IntKind.wrap .i64 (IntKind.wrap .u8 (Int.tdiv v56 4))) 3) == (0 : Int))) rfl rfl rfl (pSub (pH (pH (pH (pApp (sC hA') (pApp (sC hA') (pApp (sC hA') pNil))))))) (stepV_ok tt_ok rfl) rfl ?_
      refine k_val rfl rfl rfl (pSub (pH (pH (pH (pApp (sC hA') (pApp (sC hA') (pApp (sC hA') pNil))))))) (stepV_ok tt_ok rfl) rfl ?_
      replace h := bsome h; obtain ⟨⟨v188, zbc, zbd⟩, h, hg188⟩ := h
      refine k_split (t := 178) rfl (fun hc => ?_) (fun hc => ?_)
      · replace h := ct hc h
        refine k_val rfl rfl rfl (pSub (pH (pH (pH (pApp (sC hA') (pApp (sC hA') (pApp (sC hA') pNil))))))) (stepV_ok tt_ok rfl) rfl ?_
        refine k_val (v := .agg #[.int .u64 p0.Seed, .int .u8 p0.Player, .int .u8 p0.Window, .slice p0a0 p0n0 p0c0, .slice p0a1 p0n1 p0c1]) rfl rfl rfl (pSub (pH (pH (pH (pApp (sC hA') (pApp (sC hA') (pApp (sC hA') pNil))))))) (val_load tt_ok rfl (mH) rfl) rfl ?_
        refine k_val rfl rfl rfl (pSub (pH (pH (pH (pApp (sC hA') (pApp (sC hA') (pApp (sC hA') pNil))))))) (stepV_ok tt_ok rfl) rfl ?_
        refine k_val rfl rfl rfl (pSub (pH (pH (pH (pApp (sC hA') (pApp (sC hA') (pApp (sC hA') pNil))))))) (stepV_ok tt_ok rfl) rfl ?_
        refine k_val rfl rfl rfl (pSub (pH (pH (pH (pApp (sC hA') (pApp (sC hA') (pApp (sC hA') pNil))))))) (stepV_ok tt_ok rfl) rfl ?_
        replace h := bsome h; obtain ⟨⟨zi, v180⟩, x180, h⟩ := h; try dsimp only at h
        refine k_cs rfl rfl rfl Tryd.call11 rfl rfl rfl (s_sp (k_rollback_Engine_Shown (p0 := (T_rollback_Engine.mk zr zs (T_api_State.mk zn zo zp zb zk) zc)) (p0_4 := zg) (p0_5 := zq) zt zu zw zx zbf zbg zby zbx x180) (pCons (sC hC) (pApp (sC (sC (sC hA'))) (pApp (sC (sC (sC hA'))) (pCons (sC hC) (pApp (sC (sC hA')) (pCons (sC hC) (pApp (sC hA') pNil))))))) (fun w hI => ⟨(Rds.call G0S (pCons (sC hC) (pApp (sC (sC (sC hA'))) (pApp (sC (sC (sC hA'))) (pCons (sC hC) (pApp (sC (sC hA')) (pCons (sC hC) (pApp (sC hA') pNil))))))) rsub_nil) w hI, (Rds.call G1S (pCons (sC hC) (pApp (sC (sC (sC hA'))) (pApp (sC (sC (sC hA'))) (pCons (sC hC) (pApp (sC (sC hA')) (pCons (sC hC) (pApp (sC hA') pNil))))))) rsub_nil) w hI⟩)) rfl (.inr (by rintro _ _ ⟨_, ⟨_, _, _, _, _, _, _, _, _, _, rfl, rfl⟩, rfl⟩; exact ⟨_, (pCons (sC (sA (sA (sC (sA (sC (sA (sA hC)))))))) (pH (pCons (sA (sA hC)) (pA (pA (pA pNil))))))⟩)) ?_
        rintro _ _ ⟨_, ⟨zbb, zba, v180a0, v180n0, v180c0, v180B0, zaz, zay, v180N0, v180V0, rfl, rfl⟩, rfl⟩
        replace h := bsome h; obtain ⟨v185, x185, h⟩ := h
        refine k_cs rfl rfl rfl Tryd.call22 rfl rfl rfl (s_sp (k_hindcastlaw26_Game_shown (p0 := p0) p0N0 p0H0 p0N1 p0H1 x185) pNil (fun w hI => ⟨(Rds.call p0S0 pNil rsub_nil) w hI, (Rds.call p0S1 pNil rsub_nil) w hI, (Rds.call G0S pNil rsub_nil) w hI, (Rds.call G1S pNil rsub_nil) w hI⟩)) rfl (.inr (by rintro _ _ ⟨_, ⟨_, _, _, _, _, _, rfl, rfl⟩, rfl⟩; exact ⟨_, (pCons (sA (sC (sA (sA (sC (sA (sC (sA (sA hC))))))))) (pCons (sA hC) (pCons (sA (sA (sA hC))) (pApp (sA hA') (pApp (sA hA') (pApp (sA hA') pNil))))))⟩)) ?_
        rintro _ _ ⟨_, ⟨v185a0, v185n0, v185c0, v185B0, v185N0, v185V0, rfl, rfl⟩, rfl⟩
        replace h := bsome h; obtain ⟨v186, x186, h⟩ := h
        refine k_cq rfl rfl rfl Tryd.call14 rfl rfl rfl (q_pf (k_state_Same (p0 := v180) (p1 := v185) v180N0 (vec_cap v180V0) v185N0 (vec_cap v185V0) x186) (fun w hI => ⟨(Rds.call (Rds.of_vec v180V0) pNil ⟨_, (sA (sC (sA (sA (sC (sA (sC (sA hA'))))))))⟩) w hI, (Rds.call (Rds.of_vec v185V0) pNil ⟨_, hA'⟩) w hI⟩)) rfl (pSub (pCons (sA (sC (sA (sA (sC (sA (sC (sA (sA hC))))))))) (pCons (sA hC) (pCons (sA (sA (sA hC))) (pApp (sA hA') (pApp (sA hA') (pApp (sA hA') pNil))))))) ?_
        refine k_val (v := .bool (!v186)) rfl rfl rfl (pSub (pCons (sA (sC (sA (sA (sC (sA (sC (sA (sA hC))))))))) (pCons (sA hC) (pCons (sA (sA (sA hC))) (pApp (sA hA') (pApp (sA hA') (pApp (sA hA') pNil))))))) (stepV_ok tt_ok rfl) rfl ?_
        simp only [Option.some.injEq, Prod.mk.injEq] at h
        obtain ⟨rfl, rfl, rfl⟩ := h
        have h := hg188; clear hg188; try dsimp only at h
        refine k_val (v := .bool (!v186)) rfl rfl rfl (pSub (pCons (sA (sC (sA (sA (sC (sA (sC (sA (sA hC))))))))) (pCons (sA hC) (pCons (sA (sA (sA hC))) (pApp (sA hA') (pApp (sA hA') (pApp (sA hA') pNil))))))) (stepV_ok tt_ok rfl) rfl ?_
        refine k_end (by kernel_rfl) ?_
        refine wx_then (wc_cond rfl (fun hc => ?_) (fun hc => ?_))
        · replace h := ct hc h
          refine wc_seq (wc_region (wP rfl rfl (wl_nil (wx_then (wc_ret (wx_block_ret (wx_then_ret ?_)))))))
          obtain rfl := Option.some.inj h
          have h := hl29; clear hl29; try dsimp only [orE_l, orE_r] at h
          refine wx_then_ret (wx_block_ret (wx_then_ret ?_))
          obtain rfl := sI h
          exact wx_pf tt_ok (.inl rfl) Tryd.results5 (Res.tmp rfl Res.nil) rfl
        replace h := cf hc h
        refine wc_skip (wx_block (wx_then (wc_region (wP rfl rfl (wP (v := .int .i64 (IntKind.wrap .i64 (zy + (1 : Int)))) rfl rfl (wP rfl rfl (wl_nil ?_)))))))
        exact wx_round m29 (Nat.lt_succ_self m29) ⟨zm, zl, zca, (IntKind.wrap .i64 (zy + (1 : Int))), zr, zs, zn, zo, zp, zb, zk, zc, zg.first_, zg.l, zg.last, zi.size, zi.places, zak, zai, zal, zaj, zat, zam, zau, zas, zcd, zcf, zce, zcc, zbb, zba, h, zt, zu, zw, zx, zbf, zbg, zaz, zay, rfl, rfl⟩ (agree_cons rfl (agree_cons rfl (agree_cons rfl (agree_cons rfl (agree_cons rfl (agree_cons rfl (agree_cons rfl (agree_cons rfl (agree_cons rfl agree_nil))))))))) (pSub (pCons (sA (sC (sA (sA (sC (sA (sC (sA (sA hC))))))))) (pCons (sA hC) (pCons (sA (sA (sA hC))) (pCons (sA (sA (sA (sA hC)))) (pApp (sA hA') (pApp (sA hA') (pApp (sA hA') (pApp (sA hA') pNil)))))))))
      replace h := cf hc h
      refine k_skip rfl rfl (pSub (pH (pH (pH (pApp (sC hA') (pApp (sC hA') (pApp (sC hA') pNil))))))) rfl ?_
      refine k_skip rfl rfl (pSub (pH (pH (pH (pApp (sC hA') (pApp (sC hA') (pApp (sC hA') pNil))))))) rfl ?_
      refine k_skip rfl rfl (pSub (pH (pH (pH (pApp (sC hA') (pApp (sC hA') (pApp (sC hA') pNil))))))) rfl ?_
      refine k_skip rfl rfl (pSub (pH (pH (pH (pApp (sC hA') (pApp (sC hA') (pApp (sC hA') pNil))))))) rfl ?_
      refine k_skip rfl rfl (pSub (pH (pH (pH (pApp (sC hA') (pApp (sC hA') (pApp (sC hA') pNil))))))) rfl ?_
      refine k_skip rfl rfl (pSub (pH (pH (pH (pApp (sC hA') (pApp (sC hA') (pApp (sC hA') pNil))))))) rfl ?_
      refine k_skip rfl rfl (pSub (pH (pH (pH (pApp (sC hA') (pApp (sC hA') (pApp (sC hA') pNil))))))) rfl ?_
      refine k_skip rfl rfl (pSub (pH (pH (pH (pApp (sC hA') (pApp (sC hA') (pApp (sC hA') pNil))))))) rfl ?_
      refine k_skip rfl rfl (pSub (pH (pH (pH (pApp (sC hA') (pApp (sC hA') (pApp (sC hA') pNil))))))) rfl ?_
      simp only [Option.some.injEq, Prod.mk.injEq] at h
      obtain ⟨rfl, rfl, rfl⟩ := h
      have h := hg188; clear hg188; try dsimp only at h
      refine k_val (v := .bool false) rfl rfl rfl (pSub (pH (pH (pH (pApp (sC hA') (pApp (sC hA') (pApp (sC hA') pNil))))))) (stepV_ok tt_ok rfl) rfl ?_
      refine k_end (by kernel_rfl) ?_
      refine wx_then ?_
      replace h := cf rfl h
      refine wc_cond_false rfl ?_
      refine wc_skip (wx_block (wx_then (wc_region (wP rfl rfl (wP (v := .int .i64 (IntKind.wrap .i64 (zy + (1 : Int)))) rfl rfl (wP rfl rfl (wl_nil ?_)))))))
      exact wx_round m29 (Nat.lt_succ_self m29) ⟨zm, zl, zca, (IntKind.wrap .i64 (zy + (1 : Int))), zr, zs, zn, zo, zp, zb, zk, zc, zg.first_, zg.l, zg.last, zq.size, zq.places, zak, zai, zal, zaj, zat, zam, zau, zas, zcd, zcf, zce, zcc, zcw, zcv, h, zt, zu, zw, zx, zbf, zbg, zby, zbx, rfl, rfl⟩ (agree_cons rfl (agree_cons rfl (agree_cons rfl (agree_cons rfl (agree_cons rfl (agree_cons rfl (agree_cons rfl (agree_cons rfl (agree_cons rfl agree_nil))))))))) (pSub (pH (pH (pH (pH (pA (pA (pA (pA pNil)))))))))
    replace h := cf hc h
    refine wc_seq (wc_region ?_)
    iterate 2 refine wP rfl rfl ?_
    refine wP (v := .int .i64 (IntKind.wrap .i64 (zm + (1 : Int)))) rfl rfl (wP (v := .int .u64 (IntKind.wrap .u64 (IntKind.wrap .i64 (zm + (1 : Int))))) rfl rfl ?_)
    replace h := bsome h; obtain ⟨⟨za, ze, zj, zbz, zda⟩, x70, h⟩ := h; try dsimp only at h
    refine wl_cs Tryd.call13 rfl rfl rfl (s_sp (k_rollback_Engine_Confirm (p0 := (T_rollback_Engine.mk zr zs (T_api_State.mk zn zo zp zb zk) zc)) (p0_4 := (T_queue_Queue.mk zaa zd zab)) (p0_5 := (T_ring_Ring.mk zar zh)) zt zu zw zx zan zao zax zaw x70) (pCons (sC hC) (pApp (sC (sC (sC hA'))) (pApp (sC (sC (sC hA'))) (pCons (sC hC) (pApp (sC (sC hA')) (pCons (sC hC) (pApp (sC hA') pNil))))))) (fun w hI => ⟨(Rds.call G0S (pCons (sC hC) (pApp (sC (sC (sC hA'))) (pApp (sC (sC (sC hA'))) (pCons (sC hC) (pApp (sC (sC hA')) (pCons (sC hC) (pApp (sC hA') pNil))))))) rsub_nil) w hI, (Rds.call G1S (pCons (sC hC) (pApp (sC (sC (sC hA'))) (pApp (sC (sC (sC hA'))) (pCons (sC hC) (pApp (sC (sC hA')) (pCons (sC hC) (pApp (sC hA') pNil))))))) rsub_nil) w hI⟩)) rfl ?_
    rintro _ _ ⟨_, ⟨zbm, zbq, zbo, zbk, zbn, zbr, zbp, zbl, zbt, zbv, zbu, zbs, zcm, zcl, zac, zae, zad, zaf, zag, zah, zaq, zap, rfl, rfl⟩, rfl⟩
    iterate 3 refine wP rfl rfl ?_
    refine wl_alloc tt_ok rfl rfl (fun b15 => ?_)
    apply wl_store tt_ok; rfl; exact Upd.here; rfl; rfl; rfl; rfl; rfl; rfl
    refine wP rfl rfl (wl_nil (wx_then (wc_seq (wc_seq (wc_quiet (by kernel_rfl) (by kernel_rfl) (qP rfl rfl (qP rfl rfl (qP rfl rfl (qP (v := .bool (decide (zm < zl))) rfl rfl (qP rfl rfl ?_))))))))))
    replace h := bsome h; obtain ⟨v81, h, hg81⟩ := h
    refine wq_split (t := 77) rfl (fun hc => ?_) (fun hc => ?_)
    · replace h := ct hc h
      refine wq_run rfl (qP rfl rfl (wq_run rfl (qP rfl rfl (wq_run rfl (qP (v := .bool (decide (zm < zz))) rfl rfl ?_)))))
      obtain rfl := sI h
      have h := hg81; clear hg81
      refine qP (v := .bool (decide (zm < zz))) rfl rfl (qP (v := .bool (zda != (decide (zm < zz)))) rfl rfl (qP rfl rfl ?_))
      replace h := bsome h; obtain ⟨v92, h, hg92⟩ := h
      refine wq_split (t := 83) rfl (fun hc => ?_) (fun hc => ?_)
      · replace h := ct hc h
        refine wq_skip rfl rfl (wq_skip rfl rfl (wq_skip rfl rfl (wq_skip rfl rfl (wq_skip rfl rfl (wq_skip rfl rfl (wq_skip rfl rfl (wq_skip rfl rfl ?_)))))))
        obtain rfl := sI h
        have h := hg92; clear hg92
        refine qP (v := .bool true) rfl rfl (wq_nil (wx_then ?_))
        replace h := ct rfl h
        refine wc_cond_true rfl ?_
        refine wc_seq (wc_region (wP rfl rfl (wl_nil (wx_then (wc_ret (wx_then_ret (wx_block_ret (wx_then_ret (wx_block_ret (wx_then_ret ?_))))))))))
        obtain rfl := Option.some.inj h
        have h := hl29; clear hl29; try dsimp only [orE_l, orE_r] at h
        refine wx_then_ret (wx_block_ret (wx_then_ret ?_))
        obtain rfl := sI h
        exact wx_pf tt_ok (.inl rfl) Tryd.results5 (Res.tmp rfl Res.nil) rfl
      replace h := cf hc h
      refine wq_run rfl (qP rfl rfl (wq_run rfl (qP rfl rfl ?_)))
      replace h := bsome h; obtain ⟨v91, h, hg91⟩ := h
      refine wq_split (t := 85) rfl (fun hc => ?_) (fun hc => ?_)
      · replace h := ct hc h
        refine wq_run rfl (wq_val (v := .agg #[.int .u8 zbz.1, .int .u8 zbz.2]) (val_load tt_ok rfl (mH) rfl) rfl (wq_run rfl (wq_val (v := .agg #[.int .u64 p0.Seed, .int .u8 p0.Player, .int .u8 p0.Window, .slice p0a0 p0n0 p0c0, .slice p0a1 p0n1 p0c1]) (val_load tt_ok rfl (mT (mT (mR (mR (mT (mR (mT (mR (mH))))))))) rfl) rfl (wq_run rfl (qP rfl rfl ?_)))))
        replace h := bsome h; obtain ⟨v89, x89, h⟩ := h
        refine wq_run rfl (wq_cq Tryd.call21 rfl rfl rfl (q_pf (k_hindcastlaw26_Game_pair (p0 := p0) p0N0 p0H0 p0N1 p0H1 x89) (fun w hI => ⟨(Rds.call p0S0 pNil rsub_nil) w hI, (Rds.call p0S1 pNil rsub_nil) w hI⟩)) rfl (wq_run rfl (wq_val (v := .bool (!((zbz.1 == v89.1) && (zbz.2 == v89.2)))) (val_nes tt_ok tt_eq tt_one Tryd.eqGuardType45 rfl rfl rfl rfl rfl) rfl ?_)))
        obtain rfl := sI h
        have h := hg91; clear hg91
        refine wq_run rfl (qP (v := .bool (!((zbz.1 == v89.1) && (zbz.2 == v89.2)))) rfl rfl ?_)
        obtain rfl := sI h
        have h := hg92; clear hg92
        refine qP (v := .bool (!((zbz.1 == v89.1) && (zbz.2 == v89.2)))) rfl rfl (wq_nil (wx_then (wc_cond rfl (fun hc => ?_) (fun hc => ?_))))
        · replace h := ct hc h
          refine wc_seq (wc_region (wP rfl rfl (wl_nil (wx_then (wc_ret (wx_then_ret (wx_block_ret (wx_then_ret (wx_block_ret (wx_then_ret ?_))))))))))
          obtain rfl := Option.some.inj h
          have h := hl29; clear hl29; try dsimp only [orE_l, orE_r] at h
          refine wx_then_ret (wx_block_ret (wx_then_ret ?_))
          obtain rfl := sI h
          exact wx_pf tt_ok (.inl rfl) Tryd.results5 (Res.tmp rfl Res.nil) rfl
        replace h := cf hc h
        refine wc_skip (wx_then (wc_seq (wc_region (wP rfl rfl (wl_nil (wx_then (wc_cond rfl (fun hc => ?_) (fun hc => ?_))))))))
        · replace h := ct hc h
          refine wc_region (wP rfl rfl (wP (v := .int .i64 (IntKind.wrap .i64 (zm + (1 : Int)))) rfl rfl (wP rfl rfl (wl_nil (wx_block (wx_then (wc_seq (wc_seq (wc_region (wP rfl rfl ?_))))))))))
          replace h := bsome h; obtain ⟨v150, x150, h⟩ := h
          refine wl_cq Tryd.call16 rfl rfl rfl (q_rd (k_rollback_Engine_C (p0 := za) (p0_4 := ze) (p0_5 := zj) zac zae zad zaf zag zah zaq zap x150) (pCons (sC hC) (pApp (sC hA') (pApp (sC hA') (pCons (sC hC) (pApp (sC hA') (pCons (sC hC) (pApp (sC hA') pNil))))))) (fun _ _ => trivial)) rfl ?_
          refine wP rfl rfl (wP (v := .int .u64 (IntKind.wrap .u64 (IntKind.wrap .i64 (zm + (1 : Int))))) rfl rfl (wP (v := .bool (v150 != (IntKind.wrap .u64 (IntKind.wrap .i64 (zm + (1 : Int)))))) rfl rfl (wP rfl rfl ?_)))
          replace h := bsome h; obtain ⟨v160, h, hg160⟩ := h
          refine wl_split (t := 154) rfl (fun hc => ?_) (fun hc => ?_)
          · replace h := ct hc h
            refine wl_skip rfl rfl (wl_skip rfl rfl (wl_skip rfl rfl (wl_skip rfl rfl (wl_skip rfl rfl ?_))))
            obtain rfl := sI h
            have h := hg160; clear hg160
            refine wP (v := .bool true) rfl rfl (wP rfl rfl ?_)
            replace h := bsome h; obtain ⟨v167, h, hg167⟩ := h
            replace h := ct rfl h
            refine wl_skip rfl rfl (wl_skip rfl rfl (wl_skip rfl rfl (wl_skip rfl rfl (wl_skip rfl rfl ?_))))
            obtain rfl := sI h
            have h := hg167; clear hg167
            refine wP (v := .bool true) rfl rfl (wP rfl rfl ?_)
            replace h := bsome h; obtain ⟨v174, h, hg174⟩ := h
            replace h := ct rfl h
            refine wl_skip rfl rfl (wl_skip rfl rfl (wl_skip rfl rfl (wl_skip rfl rfl (wl_skip rfl rfl ?_))))
            obtain rfl := sI h
            have h := hg174; clear hg174
            refine wP (v := .bool true) rfl rfl (wl_nil (wx_then ?_))
            replace h := ct rfl h
            refine wc_cond_true rfl ?_
            refine wc_seq (wc_region (wP rfl rfl (wl_nil (wx_then (wc_ret (wx_then_ret (wx_block_ret (wx_then_ret ?_))))))))
            obtain rfl := Option.some.inj h
            have h := hl29; clear hl29; try dsimp only [orE_l, orE_r] at h
            refine wx_then_ret (wx_block_ret (wx_then_ret ?_))
            obtain rfl := sI h
            exact wx_pf tt_ok (.inl rfl) Tryd.results5 (Res.tmp rfl Res.nil) rfl
          replace h := cf hc h
          refine wl_run rfl (wP rfl rfl ?_)
          replace h := bsome h; obtain ⟨v156, x156, h⟩ := h
          refine wl_run rfl (wl_cq Tryd.call17 rfl rfl rfl (q_rd (k_rollback_Engine_T (p0 := za) (p0_4 := ze) (p0_5 := zj) zac zae zad zaf zag zah zaq zap x156) (pCons (sC hC) (pApp (sC hA') (pApp (sC hA') (pCons (sC hC) (pApp (sC hA') (pCons (sC hC) (pApp (sC hA') pNil))))))) (fun _ _ => trivial)) rfl (wl_run rfl (wP rfl rfl (wl_run rfl (wP (v := .int .u64 (IntKind.wrap .u64 zl)) rfl rfl (wl_run rfl (wP (v := .bool (v156 != (IntKind.wrap .u64 zl))) rfl rfl ?_)))))))
          obtain rfl := sI h
          have h := hg160; clear hg160
          refine wP (v := .bool (v156 != (IntKind.wrap .u64 zl))) rfl rfl (wP rfl rfl ?_)
          replace h := bsome h; obtain ⟨v167, h, hg167⟩ := h
          refine wl_split (t := 161) rfl (fun hc => ?_) (fun hc => ?_)
          · replace h := ct hc h
            refine wl_skip rfl rfl (wl_skip rfl rfl (wl_skip rfl rfl (wl_skip rfl rfl (wl_skip rfl rfl ?_))))
            obtain rfl := sI h
            have h := hg167; clear hg167
            refine wP (v := .bool true) rfl rfl (wP rfl rfl ?_)
            replace h := bsome h; obtain ⟨v174, h, hg174⟩ := h
            replace h := ct rfl h
            refine wl_skip rfl rfl (wl_skip rfl rfl (wl_skip rfl rfl (wl_skip rfl rfl (wl_skip rfl rfl ?_))))
            obtain rfl := sI h
            have h := hg174; clear hg174
            refine wP (v := .bool true) rfl rfl (wl_nil (wx_then ?_))
            replace h := ct rfl h
            refine wc_cond_true rfl ?_
            refine wc_seq (wc_region (wP rfl rfl (wl_nil (wx_then (wc_ret (wx_then_ret (wx_block_ret (wx_then_ret ?_))))))))
            obtain rfl := Option.some.inj h
            have h := hl29; clear hl29; try dsimp only [orE_l, orE_r] at h
            refine wx_then_ret (wx_block_ret (wx_then_ret ?_))
            obtain rfl := sI h
            exact wx_pf tt_ok (.inl rfl) Tryd.results5 (Res.tmp rfl Res.nil) rfl
          replace h := cf hc h
          refine wl_run rfl (wP rfl rfl ?_)
          replace h := bsome h; obtain ⟨v163, x163, h⟩ := h
          refine wl_run rfl (wl_cq Tryd.call19 rfl rfl rfl (q_rd (k_rollback_Engine_Known (p0 := za) (p0_4 := ze) (p0_5 := zj) zac zae zad zaf zag zah zaq zap x163) (pCons (sC hC) (pApp (sC hA') (pApp (sC hA') (pCons (sC hC) (pApp (sC hA') (pCons (sC hC) (pApp (sC hA') pNil))))))) (fun _ _ => trivial)) rfl (wl_run rfl (wP rfl rfl (wl_run rfl (wP (v := .int .u64 (IntKind.wrap .u64 zz)) rfl rfl (wl_run rfl (wP (v := .bool (v163 != (IntKind.wrap .u64 zz))) rfl rfl ?_)))))))
          obtain rfl := sI h
          have h := hg167; clear hg167
          refine wP (v := .bool (v163 != (IntKind.wrap .u64 zz))) rfl rfl (wP rfl rfl ?_)
          replace h := bsome h; obtain ⟨v174, h, hg174⟩ := h
          refine wl_split (t := 168) rfl (fun hc => ?_) (fun hc => ?_)
          · replace h := ct hc h
            refine wl_skip rfl rfl (wl_skip rfl rfl (wl_skip rfl rfl (wl_skip rfl rfl (wl_skip rfl rfl ?_))))
            obtain rfl := sI h
            have h := hg174; clear hg174
            refine wP (v := .bool true) rfl rfl (wl_nil (wx_then ?_))
            replace h := ct rfl h
            refine wc_cond_true rfl ?_
            refine wc_seq (wc_region (wP rfl rfl (wl_nil (wx_then (wc_ret (wx_then_ret (wx_block_ret (wx_then_ret ?_))))))))
            obtain rfl := Option.some.inj h
            have h := hl29; clear hl29; try dsimp only [orE_l, orE_r] at h
            refine wx_then_ret (wx_block_ret (wx_then_ret ?_))
            obtain rfl := sI h
            exact wx_pf tt_ok (.inl rfl) Tryd.results5 (Res.tmp rfl Res.nil) rfl
          replace h := cf hc h
          refine wl_run rfl (wP rfl rfl (wl_run rfl (wP rfl rfl (wl_run rfl (wP (v := .int .i64 (IntKind.wrap .i64 (zl - (IntKind.wrap .i64 (zm + (1 : Int)))))) rfl rfl (wl_run rfl (wP rfl rfl (wl_run rfl (wP (v := .bool (decide ((IntKind.wrap .i64 ((1 : Int) + (IntKind.wrap .i64 (Int.tmod p0.Window 12)))) < (IntKind.wrap .i64 (zl - (IntKind.wrap .i64 (zm + (1 : Int)))))))) rfl rfl ?_)))))))))
          obtain rfl := sI h
          have h := hg174; clear hg174
          refine wP (v := .bool (decide ((IntKind.wrap .i64 ((1 : Int) + (IntKind.wrap .i64 (Int.tmod p0.Window 12)))) < (IntKind.wrap .i64 (zl - (IntKind.wrap .i64 (zm + (1 : Int)))))))) rfl rfl (wl_nil (wx_then (wc_cond rfl (fun hc => ?_) (fun hc => ?_))))
          · replace h := ct hc h
            refine wc_seq (wc_region (wP rfl rfl (wl_nil (wx_then (wc_ret (wx_then_ret (wx_block_ret (wx_then_ret ?_))))))))
            obtain rfl := Option.some.inj h
            have h := hl29; clear hl29; try dsimp only [orE_l, orE_r] at h
            refine wx_then_ret (wx_block_ret (wx_then_ret ?_))
            obtain rfl := sI h
            exact wx_pf tt_ok (.inl rfl) Tryd.results5 (Res.tmp rfl Res.nil) rfl
          replace h := cf hc h
          refine wc_skip (wx_then (wc_seq (wc_k2 (Ls := (⟨b15, [.int .u8 zbz.1, .int .u8 zbz.2], 45, (0, 0)⟩ :: (⟨zv, (.int .u8 za.player :: .int .i64 za.window :: .int .u64 za.sure.Frame :: .int .u64 za.sure.Seed :: pl14 za.sure.Players [.slice zbm zbq zbo, .int .u16 za.sure.Score.1, .int .u16 za.sure.Score.2, .slice zbn zbr zbp, .pointer (some ⟨zav, 0, none⟩), .pointer (some ⟨zbw, 0, none⟩)]), 55, (0, 0)⟩ :: (zbk ++ (zbl ++ (⟨zav, [.int .u64 ze.first_, .slice zbt zbv zbu, .int .u8 ze.last], 94, (0, 0)⟩ :: (zbs ++ (⟨b2, [.int .u64 p0.Seed, .int .u8 p0.Player, .int .u8 p0.Window, .slice p0a0 p0n0 p0c0, .slice p0a1 p0n1 p0c1], 25, (0, 0)⟩ :: [])))))))) [5, 10, 11] [] [0, 1, 3, 7, 15, 31, 15, 15, 15, 15, 1023, 2047, 4095, 8191] [0, 1, 2, 3, 4, 6, 7, 8, 9, 5, 10, 11, 12, 13] (by kernel_rfl) (by kernel_rfl) (by kernel_rfl) ?_)))
          refine k_val rfl rfl rfl (pSub (pH (pH (pA (pA (pH (pA (pCons (sC (sA hC)) pNil)))))))) (stepV_ok tt_ok rfl) rfl ?_
          refine k_val (v := .int .i64 (Int.tmod (IntKind.wrap .i64 (IntKind.wrap .u8 (Int.tdiv v56 4))) 3)) rfl rfl rfl (pSub (pH (pH (pA (pA (pH (pA (pCons (sC (sA hC)) pNil)))))))) (stepV_ok tt_ok rfl) rfl ?_
          refine k_val (v := .bool ((Int.tmod (IntKind.wrap .i64 (IntKind.wrap .u8 (Int.tdiv v56 4))) 3) == (0 : Int))) rfl rfl rfl (pSub (pH (pH (pA (pA (pH (pA (pCons (sC (sA hC)) pNil)))))))) (stepV_ok tt_ok rfl) rfl ?_
          refine k_val rfl rfl rfl (pSub (pH (pH (pA (pA (pH (pA (pCons (sC (sA hC)) pNil)))))))) (stepV_ok tt_ok rfl) rfl ?_
          replace h := bsome h; obtain ⟨⟨v188, zbc, zbd⟩, h, hg188⟩ := h
          refine k_split (t := 178) rfl (fun hc => ?_) (fun hc => ?_)
          · replace h := ct hc h
            refine k_val rfl rfl rfl (pSub (pH (pH (pA (pA (pH (pA (pCons (sC (sA hC)) pNil)))))))) (stepV_ok tt_ok rfl) rfl ?_
            refine k_val (v := .agg #[.int .u64 p0.Seed, .int .u8 p0.Player, .int .u8 p0.Window, .slice p0a0 p0n0 p0c0, .slice p0a1 p0n1 p0c1]) rfl rfl rfl (pSub (pH (pH (pA (pA (pH (pA (pCons (sC (sA hC)) pNil)))))))) (val_load tt_ok rfl (mT (mT (mR (mR (mT (mR (mH))))))) rfl) rfl ?_
            refine k_val rfl rfl rfl (pSub (pH (pH (pA (pA (pH (pA (pCons (sC (sA hC)) pNil)))))))) (stepV_ok tt_ok rfl) rfl ?_
            refine k_val rfl rfl rfl (pSub (pH (pH (pA (pA (pH (pA (pCons (sC (sA hC)) pNil)))))))) (stepV_ok tt_ok rfl) rfl ?_
            refine k_val rfl rfl rfl (pSub (pH (pH (pA (pA (pH (pA (pCons (sC (sA hC)) pNil)))))))) (stepV_ok tt_ok rfl) rfl ?_
            replace h := bsome h; obtain ⟨⟨zi, v180⟩, x180, h⟩ := h; try dsimp only at h
            refine k_cs rfl rfl rfl Tryd.call11 rfl rfl rfl (s_sp (k_rollback_Engine_Shown (p0 := za) (p0_4 := ze) (p0_5 := zj) zac zae zad zaf zag zah zaq zap x180) (pCons (sC hC) (pApp (sC hA') (pApp (sC hA') (pCons (sC hC) (pApp (sC hA') (pCons (sC hC) (pApp (sC hA') pNil))))))) (fun w hI => ⟨(Rds.call G0S (pCons (sC hC) (pApp (sC hA') (pApp (sC hA') (pCons (sC hC) (pApp (sC hA') (pCons (sC hC) (pApp (sC hA') pNil))))))) rsub_nil) w hI, (Rds.call G1S (pCons (sC hC) (pApp (sC hA') (pApp (sC hA') (pCons (sC hC) (pApp (sC hA') (pCons (sC hC) (pApp (sC hA') pNil))))))) rsub_nil) w hI⟩)) rfl (.inr (by rintro _ _ ⟨_, ⟨_, _, _, _, _, _, _, _, _, _, rfl, rfl⟩, rfl⟩; exact ⟨_, (pCons (sC (sA (sA (sC (sA (sC (sA (sA hC)))))))) (pH (pA (pA (pH (pA (pCons (sC (sA (sA hC))) pNil)))))))⟩)) ?_
            rintro _ _ ⟨_, ⟨zbb, zba, v180a0, v180n0, v180c0, v180B0, zaz, zay, v180N0, v180V0, rfl, rfl⟩, rfl⟩
            replace h := bsome h; obtain ⟨v185, x185, h⟩ := h
            refine k_cs rfl rfl rfl Tryd.call22 rfl rfl rfl (s_sp (k_hindcastlaw26_Game_shown (p0 := p0) p0N0 p0H0 p0N1 p0H1 x185) pNil (fun w hI => ⟨(Rds.call p0S0 pNil rsub_nil) w hI, (Rds.call p0S1 pNil rsub_nil) w hI, (Rds.call G0S pNil rsub_nil) w hI, (Rds.call G1S pNil rsub_nil) w hI⟩)) rfl (.inr (by rintro _ _ ⟨_, ⟨_, _, _, _, _, _, rfl, rfl⟩, rfl⟩; exact ⟨_, (pCons (sA (sC (sA (sA (sC (sA (sC (sA (sA hC))))))))) (pCons (sA hC) (pApp (sA hA') (pApp (sA hA') (pCons (sA hC) (pApp (sA hA') (pCons (sA (sC (sA (sA hC)))) pNil)))))))⟩)) ?_
            rintro _ _ ⟨_, ⟨v185a0, v185n0, v185c0, v185B0, v185N0, v185V0, rfl, rfl⟩, rfl⟩
            replace h := bsome h; obtain ⟨v186, x186, h⟩ := h
            refine k_cq rfl rfl rfl Tryd.call14 rfl rfl rfl (q_pf (k_state_Same (p0 := v180) (p1 := v185) v180N0 (vec_cap v180V0) v185N0 (vec_cap v185V0) x186) (fun w hI => ⟨(Rds.call (Rds.of_vec v180V0) pNil ⟨_, (sA (sC (sA (sA (sC (sA (sC (sA hA'))))))))⟩) w hI, (Rds.call (Rds.of_vec v185V0) pNil ⟨_, hA'⟩) w hI⟩)) rfl (pSub (pCons (sA (sC (sA (sA (sC (sA (sC (sA (sA hC))))))))) (pCons (sA hC) (pApp (sA hA') (pApp (sA hA') (pCons (sA hC) (pApp (sA hA') (pCons (sA (sC (sA (sA hC)))) pNil)))))))) ?_
            refine k_val (v := .bool (!v186)) rfl rfl rfl (pSub (pCons (sA (sC (sA (sA (sC (sA (sC (sA (sA hC))))))))) (pCons (sA hC) (pApp (sA hA') (pApp (sA hA') (pCons (sA hC) (pApp (sA hA') (pCons (sA (sC (sA (sA hC)))) pNil)))))))) (stepV_ok tt_ok rfl) rfl ?_
            simp only [Option.some.injEq, Prod.mk.injEq] at h
            obtain ⟨rfl, rfl, rfl⟩ := h
            have h := hg188; clear hg188; try dsimp only at h
            refine k_val (v := .bool (!v186)) rfl rfl rfl (pSub (pCons (sA (sC (sA (sA (sC (sA (sC (sA (sA hC))))))))) (pCons (sA hC) (pApp (sA hA') (pApp (sA hA') (pCons (sA hC) (pApp (sA hA') (pCons (sA (sC (sA (sA hC)))) pNil)))))))) (stepV_ok tt_ok rfl) rfl ?_
            refine k_end (by kernel_rfl) ?_
            refine wx_then (wc_cond rfl (fun hc => ?_) (fun hc => ?_))
            · replace h := ct hc h
              refine wc_seq (wc_region (wP rfl rfl (wl_nil (wx_then (wc_ret (wx_block_ret (wx_then_ret ?_)))))))
              obtain rfl := Option.some.inj h
              have h := hl29; clear hl29; try dsimp only [orE_l, orE_r] at h
              refine wx_then_ret (wx_block_ret (wx_then_ret ?_))
              obtain rfl := sI h
              exact wx_pf tt_ok (.inl rfl) Tryd.results5 (Res.tmp rfl Res.nil) rfl
            replace h := cf hc h
            refine wc_skip (wx_block (wx_then (wc_region (wP rfl rfl (wP (v := .int .i64 (IntKind.wrap .i64 (zy + (1 : Int)))) rfl rfl (wP rfl rfl (wl_nil ?_)))))))
            exact wx_round m29 (Nat.lt_succ_self m29) ⟨(IntKind.wrap .i64 (zm + (1 : Int))), zl, zz, (IntKind.wrap .i64 (zy + (1 : Int))), za.player, za.window, za.sure.Frame, za.sure.Seed, za.sure.Players, za.sure.Shots, za.sure.Score, za.own, ze.first_, ze.l, ze.last, zi.size, zi.places, zbm, zbq, zbo, zbk, zbn, zbr, zbp, zbl, zbt, zbv, zbu, zbs, zbb, zba, h, zac, zae, zad, zaf, zag, zah, zaz, zay, rfl, rfl⟩ (agree_cons rfl (agree_cons rfl (agree_cons rfl (agree_cons rfl (agree_cons rfl (agree_cons rfl (agree_cons rfl (agree_cons rfl (agree_cons rfl agree_nil))))))))) (pSub (pCons (sA (sC (sA (sA (sC (sA (sC (sA (sA (sC hC)))))))))) (pCons (sA hC) (pCons (sA (sA (sA hC))) (pCons (sA (sA (sA (sA hC)))) (pApp (sA hA') (pApp (sA hA') (pApp (sA hA') (pApp (sA hA') pNil)))))))))
          replace h := cf hc h
          refine k_skip rfl rfl (pSub (pH (pH (pA (pA (pH (pA (pCons (sC (sA hC)) pNil)))))))) rfl ?_
          refine k_skip rfl rfl (pSub (pH (pH (pA (pA (pH (pA (pCons (sC (sA hC)) pNil)))))))) rfl ?_
          refine k_skip rfl rfl (pSub (pH (pH (pA (pA (pH (pA (pCons (sC (sA hC)) pNil)))))))) rfl ?_
          refine k_skip rfl rfl (pSub (pH (pH (pA (pA (pH (pA (pCons (sC (sA hC)) pNil)))))))) rfl ?_
          refine k_skip rfl rfl (pSub (pH (pH (pA (pA (pH (pA (pCons (sC (sA hC)) pNil)))))))) rfl ?_
          refine k_skip rfl rfl (pSub (pH (pH (pA (pA (pH (pA (pCons (sC (sA hC)) pNil)))))))) rfl ?_
          refine k_skip rfl rfl (pSub (pH (pH (pA (pA (pH (pA (pCons (sC (sA hC)) pNil)))))))) rfl ?_
          refine k_skip rfl rfl (pSub (pH (pH (pA (pA (pH (pA (pCons (sC (sA hC)) pNil)))))))) rfl ?_
          refine k_skip rfl rfl (pSub (pH (pH (pA (pA (pH (pA (pCons (sC (sA hC)) pNil)))))))) rfl ?_
          simp only [Option.some.injEq, Prod.mk.injEq] at h
          obtain ⟨rfl, rfl, rfl⟩ := h
          have h := hg188; clear hg188; try dsimp only at h
          refine k_val (v := .bool false) rfl rfl rfl (pSub (pH (pH (pA (pA (pH (pA (pCons (sC (sA hC)) pNil)))))))) (stepV_ok tt_ok rfl) rfl ?_
          refine k_end (by kernel_rfl) ?_
          refine wx_then ?_
          replace h := cf rfl h
          refine wc_cond_false rfl ?_
          refine wc_skip (wx_block (wx_then (wc_region (wP rfl rfl (wP (v := .int .i64 (IntKind.wrap .i64 (zy + (1 : Int)))) rfl rfl (wP rfl rfl (wl_nil ?_)))))))
          exact wx_round m29 (Nat.lt_succ_self m29) ⟨(IntKind.wrap .i64 (zm + (1 : Int))), zl, zz, (IntKind.wrap .i64 (zy + (1 : Int))), za.player, za.window, za.sure.Frame, za.sure.Seed, za.sure.Players, za.sure.Shots, za.sure.Score, za.own, ze.first_, ze.l, ze.last, zj.size, zj.places, zbm, zbq, zbo, zbk, zbn, zbr, zbp, zbl, zbt, zbv, zbu, zbs, zcm, zcl, h, zac, zae, zad, zaf, zag, zah, zaq, zap, rfl, rfl⟩ (agree_cons rfl (agree_cons rfl (agree_cons rfl (agree_cons rfl (agree_cons rfl (agree_cons rfl (agree_cons rfl (agree_cons rfl (agree_cons rfl agree_nil))))))))) (pSub (pCons (sC (sC (sA (sA (sC (sA (sC (sA hC)))))))) (pCons (sC hC) (pCons (sC (sA (sA hC))) (pCons (sC (sA (sA (sA hC)))) (pApp (sC hA') (pApp (sC hA') (pApp (sC hA') (pApp (sC hA') pNil)))))))))
        replace h := cf hc h
        refine wc_skip (wx_block (wx_then (wc_seq (wc_seq (wc_region (wP rfl rfl ?_))))))
        replace h := bsome h; obtain ⟨v150, x150, h⟩ := h
        refine wl_cq Tryd.call16 rfl rfl rfl (q_rd (k_rollback_Engine_C (p0 := za) (p0_4 := ze) (p0_5 := zj) zac zae zad zaf zag zah zaq zap x150) (pCons (sC hC) (pApp (sC hA') (pApp (sC hA') (pCons (sC hC) (pApp (sC hA') (pCons (sC hC) (pApp (sC hA') pNil))))))) (fun _ _ => trivial)) rfl ?_
        refine wP rfl rfl (wP (v := .int .u64 (IntKind.wrap .u64 zm)) rfl rfl (wP (v := .bool (v150 != (IntKind.wrap .u64 zm))) rfl rfl (wP rfl rfl ?_)))
        replace h := bsome h; obtain ⟨v160, h, hg160⟩ := h
        refine wl_split (t := 154) rfl (fun hc => ?_) (fun hc => ?_)
        · replace h := ct hc h
          refine wl_skip rfl rfl (wl_skip rfl rfl (wl_skip rfl rfl (wl_skip rfl rfl (wl_skip rfl rfl ?_))))
          obtain rfl := sI h
          have h := hg160; clear hg160
          refine wP (v := .bool true) rfl rfl (wP rfl rfl ?_)
          replace h := bsome h; obtain ⟨v167, h, hg167⟩ := h
          replace h := ct rfl h
          refine wl_skip rfl rfl (wl_skip rfl rfl (wl_skip rfl rfl (wl_skip rfl rfl (wl_skip rfl rfl ?_))))
          obtain rfl := sI h
          have h := hg167; clear hg167
          refine wP (v := .bool true) rfl rfl (wP rfl rfl ?_)
          replace h := bsome h; obtain ⟨v174, h, hg174⟩ := h
          replace h := ct rfl h
          refine wl_skip rfl rfl (wl_skip rfl rfl (wl_skip rfl rfl (wl_skip rfl rfl (wl_skip rfl rfl ?_))))
          obtain rfl := sI h
          have h := hg174; clear hg174
          refine wP (v := .bool true) rfl rfl (wl_nil (wx_then ?_))
          replace h := ct rfl h
          refine wc_cond_true rfl ?_
          refine wc_seq (wc_region (wP rfl rfl (wl_nil (wx_then (wc_ret (wx_then_ret (wx_block_ret (wx_then_ret ?_))))))))
          obtain rfl := Option.some.inj h
          have h := hl29; clear hl29; try dsimp only [orE_l, orE_r] at h
          refine wx_then_ret (wx_block_ret (wx_then_ret ?_))
          obtain rfl := sI h
          exact wx_pf tt_ok (.inl rfl) Tryd.results5 (Res.tmp rfl Res.nil) rfl
        replace h := cf hc h
        refine wl_run rfl (wP rfl rfl ?_)
        replace h := bsome h; obtain ⟨v156, x156, h⟩ := h
        refine wl_run rfl (wl_cq Tryd.call17 rfl rfl rfl (q_rd (k_rollback_Engine_T (p0 := za) (p0_4 := ze) (p0_5 := zj) zac zae zad zaf zag zah zaq zap x156) (pCons (sC hC) (pApp (sC hA') (pApp (sC hA') (pCons (sC hC) (pApp (sC hA') (pCons (sC hC) (pApp (sC hA') pNil))))))) (fun _ _ => trivial)) rfl (wl_run rfl (wP rfl rfl (wl_run rfl (wP (v := .int .u64 (IntKind.wrap .u64 zl)) rfl rfl (wl_run rfl (wP (v := .bool (v156 != (IntKind.wrap .u64 zl))) rfl rfl ?_)))))))
        obtain rfl := sI h
        have h := hg160; clear hg160
        refine wP (v := .bool (v156 != (IntKind.wrap .u64 zl))) rfl rfl (wP rfl rfl ?_)
        replace h := bsome h; obtain ⟨v167, h, hg167⟩ := h
        refine wl_split (t := 161) rfl (fun hc => ?_) (fun hc => ?_)
        · replace h := ct hc h
          refine wl_skip rfl rfl (wl_skip rfl rfl (wl_skip rfl rfl (wl_skip rfl rfl (wl_skip rfl rfl ?_))))
          obtain rfl := sI h
          have h := hg167; clear hg167
          refine wP (v := .bool true) rfl rfl (wP rfl rfl ?_)
          replace h := bsome h; obtain ⟨v174, h, hg174⟩ := h
          replace h := ct rfl h
          refine wl_skip rfl rfl (wl_skip rfl rfl (wl_skip rfl rfl (wl_skip rfl rfl (wl_skip rfl rfl ?_))))
          obtain rfl := sI h
          have h := hg174; clear hg174
          refine wP (v := .bool true) rfl rfl (wl_nil (wx_then ?_))
          replace h := ct rfl h
          refine wc_cond_true rfl ?_
          refine wc_seq (wc_region (wP rfl rfl (wl_nil (wx_then (wc_ret (wx_then_ret (wx_block_ret (wx_then_ret ?_))))))))
          obtain rfl := Option.some.inj h
          have h := hl29; clear hl29; try dsimp only [orE_l, orE_r] at h
          refine wx_then_ret (wx_block_ret (wx_then_ret ?_))
          obtain rfl := sI h
          exact wx_pf tt_ok (.inl rfl) Tryd.results5 (Res.tmp rfl Res.nil) rfl
        replace h := cf hc h
        refine wl_run rfl (wP rfl rfl ?_)
        replace h := bsome h; obtain ⟨v163, x163, h⟩ := h
        refine wl_run rfl (wl_cq Tryd.call19 rfl rfl rfl (q_rd (k_rollback_Engine_Known (p0 := za) (p0_4 := ze) (p0_5 := zj) zac zae zad zaf zag zah zaq zap x163) (pCons (sC hC) (pApp (sC hA') (pApp (sC hA') (pCons (sC hC) (pApp (sC hA') (pCons (sC hC) (pApp (sC hA') pNil))))))) (fun _ _ => trivial)) rfl (wl_run rfl (wP rfl rfl (wl_run rfl (wP (v := .int .u64 (IntKind.wrap .u64 zz)) rfl rfl (wl_run rfl (wP (v := .bool (v163 != (IntKind.wrap .u64 zz))) rfl rfl ?_)))))))
        obtain rfl := sI h
        have h := hg167; clear hg167
        refine wP (v := .bool (v163 != (IntKind.wrap .u64 zz))) rfl rfl (wP rfl rfl ?_)
        replace h := bsome h; obtain ⟨v174, h, hg174⟩ := h
        refine wl_split (t := 168) rfl (fun hc => ?_) (fun hc => ?_)
        · replace h := ct hc h
          refine wl_skip rfl rfl (wl_skip rfl rfl (wl_skip rfl rfl (wl_skip rfl rfl (wl_skip rfl rfl ?_))))
          obtain rfl := sI h
          have h := hg174; clear hg174
          refine wP (v := .bool true) rfl rfl (wl_nil (wx_then ?_))
          replace h := ct rfl h
          refine wc_cond_true rfl ?_
          refine wc_seq (wc_region (wP rfl rfl (wl_nil (wx_then (wc_ret (wx_then_ret (wx_block_ret (wx_then_ret ?_))))))))
          obtain rfl := Option.some.inj h
          have h := hl29; clear hl29; try dsimp only [orE_l, orE_r] at h
          refine wx_then_ret (wx_block_ret (wx_then_ret ?_))
          obtain rfl := sI h
          exact wx_pf tt_ok (.inl rfl) Tryd.results5 (Res.tmp rfl Res.nil) rfl
        replace h := cf hc h
        refine wl_run rfl (wP rfl rfl (wl_run rfl (wP rfl rfl (wl_run rfl (wP (v := .int .i64 (IntKind.wrap .i64 (zl - zm))) rfl rfl (wl_run rfl (wP rfl rfl (wl_run rfl (wP (v := .bool (decide ((IntKind.wrap .i64 ((1 : Int) + (IntKind.wrap .i64 (Int.tmod p0.Window 12)))) < (IntKind.wrap .i64 (zl - zm))))) rfl rfl ?_)))))))))
        obtain rfl := sI h
        have h := hg174; clear hg174
        refine wP (v := .bool (decide ((IntKind.wrap .i64 ((1 : Int) + (IntKind.wrap .i64 (Int.tmod p0.Window 12)))) < (IntKind.wrap .i64 (zl - zm))))) rfl rfl (wl_nil (wx_then (wc_cond rfl (fun hc => ?_) (fun hc => ?_))))
        · replace h := ct hc h
          refine wc_seq (wc_region (wP rfl rfl (wl_nil (wx_then (wc_ret (wx_then_ret (wx_block_ret (wx_then_ret ?_))))))))
          obtain rfl := Option.some.inj h
          have h := hl29; clear hl29; try dsimp only [orE_l, orE_r] at h
          refine wx_then_ret (wx_block_ret (wx_then_ret ?_))
          obtain rfl := sI h
          exact wx_pf tt_ok (.inl rfl) Tryd.results5 (Res.tmp rfl Res.nil) rfl
        replace h := cf hc h
        refine wc_skip (wx_then (wc_seq (wc_k2 (Ls := (⟨b15, [.int .u8 zbz.1, .int .u8 zbz.2], 45, (0, 0)⟩ :: (⟨zv, (.int .u8 za.player :: .int .i64 za.window :: .int .u64 za.sure.Frame :: .int .u64 za.sure.Seed :: pl14 za.sure.Players [.slice zbm zbq zbo, .int .u16 za.sure.Score.1, .int .u16 za.sure.Score.2, .slice zbn zbr zbp, .pointer (some ⟨zav, 0, none⟩), .pointer (some ⟨zbw, 0, none⟩)]), 55, (0, 0)⟩ :: (zbk ++ (zbl ++ (⟨zav, [.int .u64 ze.first_, .slice zbt zbv zbu, .int .u8 ze.last], 94, (0, 0)⟩ :: (zbs ++ (⟨b2, [.int .u64 p0.Seed, .int .u8 p0.Player, .int .u8 p0.Window, .slice p0a0 p0n0 p0c0, .slice p0a1 p0n1 p0c1], 25, (0, 0)⟩ :: [])))))))) [5, 10, 11] [] [0, 1, 3, 7, 15, 31, 15, 15, 15, 15, 1023, 2047, 4095, 8191] [0, 1, 2, 3, 4, 6, 7, 8, 9, 5, 10, 11, 12, 13] (by kernel_rfl) (by kernel_rfl) (by kernel_rfl) ?_)))
        refine k_val rfl rfl rfl (pSub (pH (pH (pA (pA (pH (pA (pCons (sC (sA hC)) pNil)))))))) (stepV_ok tt_ok rfl) rfl ?_
        refine k_val (v := .int .i64 (Int.tmod (IntKind.wrap .i64 (IntKind.wrap .u8 (Int.tdiv v56 4))) 3)) rfl rfl rfl (pSub (pH (pH (pA (pA (pH (pA (pCons (sC (sA hC)) pNil)))))))) (stepV_ok tt_ok rfl) rfl ?_
        refine k_val (v := .bool ((Int.tmod (IntKind.wrap .i64 (IntKind.wrap .u8 (Int.tdiv v56 4))) 3) == (0 : Int))) rfl rfl rfl (pSub (pH (pH (pA (pA (pH (pA (pCons (sC (sA hC)) pNil)))))))) (stepV_ok tt_ok rfl) rfl ?_
        refine k_val rfl rfl rfl (pSub (pH (pH (pA (pA (pH (pA (pCons (sC (sA hC)) pNil)))))))) (stepV_ok tt_ok rfl) rfl ?_
        replace h := bsome h; obtain ⟨⟨v188, zbc, zbd⟩, h, hg188⟩ := h
        refine k_split (t := 178) rfl (fun hc => ?_) (fun hc => ?_)
        · replace h := ct hc h
          refine k_val rfl rfl rfl (pSub (pH (pH (pA (pA (pH (pA (pCons (sC (sA hC)) pNil)))))))) (stepV_ok tt_ok rfl) rfl ?_
          refine k_val (v := .agg #[.int .u64 p0.Seed, .int .u8 p0.Player, .int .u8 p0.Window, .slice p0a0 p0n0 p0c0, .slice p0a1 p0n1 p0c1]) rfl rfl rfl (pSub (pH (pH (pA (pA (pH (pA (pCons (sC (sA hC)) pNil)))))))) (val_load tt_ok rfl (mT (mT (mR (mR (mT (mR (mH))))))) rfl) rfl ?_
          refine k_val rfl rfl rfl (pSub (pH (pH (pA (pA (pH (pA (pCons (sC (sA hC)) pNil)))))))) (stepV_ok tt_ok rfl) rfl ?_
          refine k_val rfl rfl rfl (pSub (pH (pH (pA (pA (pH (pA (pCons (sC (sA hC)) pNil)))))))) (stepV_ok tt_ok rfl) rfl ?_
          refine k_val rfl rfl rfl (pSub (pH (pH (pA (pA (pH (pA (pCons (sC (sA hC)) pNil)))))))) (stepV_ok tt_ok rfl) rfl ?_
          replace h := bsome h; obtain ⟨⟨zi, v180⟩, x180, h⟩ := h; try dsimp only at h
          refine k_cs rfl rfl rfl Tryd.call11 rfl rfl rfl (s_sp (k_rollback_Engine_Shown (p0 := za) (p0_4 := ze) (p0_5 := zj) zac zae zad zaf zag zah zaq zap x180) (pCons (sC hC) (pApp (sC hA') (pApp (sC hA') (pCons (sC hC) (pApp (sC hA') (pCons (sC hC) (pApp (sC hA') pNil))))))) (fun w hI => ⟨(Rds.call G0S (pCons (sC hC) (pApp (sC hA') (pApp (sC hA') (pCons (sC hC) (pApp (sC hA') (pCons (sC hC) (pApp (sC hA') pNil))))))) rsub_nil) w hI, (Rds.call G1S (pCons (sC hC) (pApp (sC hA') (pApp (sC hA') (pCons (sC hC) (pApp (sC hA') (pCons (sC hC) (pApp (sC hA') pNil))))))) rsub_nil) w hI⟩)) rfl (.inr (by rintro _ _ ⟨_, ⟨_, _, _, _, _, _, _, _, _, _, rfl, rfl⟩, rfl⟩; exact ⟨_, (pCons (sC (sA (sA (sC (sA (sC (sA (sA hC)))))))) (pH (pA (pA (pH (pA (pCons (sC (sA (sA hC))) pNil)))))))⟩)) ?_
          rintro _ _ ⟨_, ⟨zbb, zba, v180a0, v180n0, v180c0, v180B0, zaz, zay, v180N0, v180V0, rfl, rfl⟩, rfl⟩
          replace h := bsome h; obtain ⟨v185, x185, h⟩ := h
          refine k_cs rfl rfl rfl Tryd.call22 rfl rfl rfl (s_sp (k_hindcastlaw26_Game_shown (p0 := p0) p0N0 p0H0 p0N1 p0H1 x185) pNil (fun w hI => ⟨(Rds.call p0S0 pNil rsub_nil) w hI, (Rds.call p0S1 pNil rsub_nil) w hI, (Rds.call G0S pNil rsub_nil) w hI, (Rds.call G1S pNil rsub_nil) w hI⟩)) rfl (.inr (by rintro _ _ ⟨_, ⟨_, _, _, _, _, _, rfl, rfl⟩, rfl⟩; exact ⟨_, (pCons (sA (sC (sA (sA (sC (sA (sC (sA (sA hC))))))))) (pCons (sA hC) (pApp (sA hA') (pApp (sA hA') (pCons (sA hC) (pApp (sA hA') (pCons (sA (sC (sA (sA hC)))) pNil)))))))⟩)) ?_
          rintro _ _ ⟨_, ⟨v185a0, v185n0, v185c0, v185B0, v185N0, v185V0, rfl, rfl⟩, rfl⟩
          replace h := bsome h; obtain ⟨v186, x186, h⟩ := h
          refine k_cq rfl rfl rfl Tryd.call14 rfl rfl rfl (q_pf (k_state_Same (p0 := v180) (p1 := v185) v180N0 (vec_cap v180V0) v185N0 (vec_cap v185V0) x186) (fun w hI => ⟨(Rds.call (Rds.of_vec v180V0) pNil ⟨_, (sA (sC (sA (sA (sC (sA (sC (sA hA'))))))))⟩) w hI, (Rds.call (Rds.of_vec v185V0) pNil ⟨_, hA'⟩) w hI⟩)) rfl (pSub (pCons (sA (sC (sA (sA (sC (sA (sC (sA (sA hC))))))))) (pCons (sA hC) (pApp (sA hA') (pApp (sA hA') (pCons (sA hC) (pApp (sA hA') (pCons (sA (sC (sA (sA hC)))) pNil)))))))) ?_
          refine k_val (v := .bool (!v186)) rfl rfl rfl (pSub (pCons (sA (sC (sA (sA (sC (sA (sC (sA (sA hC))))))))) (pCons (sA hC) (pApp (sA hA') (pApp (sA hA') (pCons (sA hC) (pApp (sA hA') (pCons (sA (sC (sA (sA hC)))) pNil)))))))) (stepV_ok tt_ok rfl) rfl ?_
          simp only [Option.some.injEq, Prod.mk.injEq] at h
          obtain ⟨rfl, rfl, rfl⟩ := h
          have h := hg188; clear hg188; try dsimp only at h
          refine k_val (v := .bool (!v186)) rfl rfl rfl (pSub (pCons (sA (sC (sA (sA (sC (sA (sC (sA (sA hC))))))))) (pCons (sA hC) (pApp (sA hA') (pApp (sA hA') (pCons (sA hC) (pApp (sA hA') (pCons (sA (sC (sA (sA hC)))) pNil)))))))) (stepV_ok tt_ok rfl) rfl ?_
          refine k_end (by kernel_rfl) ?_
          refine wx_then (wc_cond rfl (fun hc => ?_) (fun hc => ?_))
          · replace h := ct hc h
            refine wc_seq (wc_region (wP rfl rfl (wl_nil (wx_then (wc_ret (wx_block_ret (wx_then_ret ?_)))))))
            obtain rfl := Option.some.inj h
            have h := hl29; clear hl29; try dsimp only [orE_l, orE_r] at h
            refine wx_then_ret (wx_block_ret (wx_then_ret ?_))
            obtain rfl := sI h
            exact wx_pf tt_ok (.inl rfl) Tryd.results5 (Res.tmp rfl Res.nil) rfl
          replace h := cf hc h
          refine wc_skip (wx_block (wx_then (wc_region (wP rfl rfl (wP (v := .int .i64 (IntKind.wrap .i64 (zy + (1 : Int)))) rfl rfl (wP rfl rfl (wl_nil ?_)))))))
          exact wx_round m29 (Nat.lt_succ_self m29) ⟨zm, zl, zz, (IntKind.wrap .i64 (zy + (1 : Int))), za.player, za.window, za.sure.Frame, za.sure.Seed, za.sure.Players, za.sure.Shots, za.sure.Score, za.own, ze.first_, ze.l, ze.last, zi.size, zi.places, zbm, zbq, zbo, zbk, zbn, zbr, zbp, zbl, zbt, zbv, zbu, zbs, zbb, zba, h, zac, zae, zad, zaf, zag, zah, zaz, zay, rfl, rfl⟩ (agree_cons rfl (agree_cons rfl (agree_cons rfl (agree_cons rfl (agree_cons rfl (agree_cons rfl (agree_cons rfl (agree_cons rfl (agree_cons rfl agree_nil))))))))) (pSub (pCons (sA (sC (sA (sA (sC (sA (sC (sA (sA (sC hC)))))))))) (pCons (sA hC) (pCons (sA (sA (sA hC))) (pCons (sA (sA (sA (sA hC)))) (pApp (sA hA') (pApp (sA hA') (pApp (sA hA') (pApp (sA hA') pNil)))))))))
        replace h := cf hc h
        refine k_skip rfl rfl (pSub (pH (pH (pA (pA (pH (pA (pCons (sC (sA hC)) pNil)))))))) rfl ?_
        refine k_skip rfl rfl (pSub (pH (pH (pA (pA (pH (pA (pCons (sC (sA hC)) pNil)))))))) rfl ?_
        refine k_skip rfl rfl (pSub (pH (pH (pA (pA (pH (pA (pCons (sC (sA hC)) pNil)))))))) rfl ?_
        refine k_skip rfl rfl (pSub (pH (pH (pA (pA (pH (pA (pCons (sC (sA hC)) pNil)))))))) rfl ?_
        refine k_skip rfl rfl (pSub (pH (pH (pA (pA (pH (pA (pCons (sC (sA hC)) pNil)))))))) rfl ?_
        refine k_skip rfl rfl (pSub (pH (pH (pA (pA (pH (pA (pCons (sC (sA hC)) pNil)))))))) rfl ?_
        refine k_skip rfl rfl (pSub (pH (pH (pA (pA (pH (pA (pCons (sC (sA hC)) pNil)))))))) rfl ?_
        refine k_skip rfl rfl (pSub (pH (pH (pA (pA (pH (pA (pCons (sC (sA hC)) pNil)))))))) rfl ?_
        refine k_skip rfl rfl (pSub (pH (pH (pA (pA (pH (pA (pCons (sC (sA hC)) pNil)))))))) rfl ?_
        simp only [Option.some.injEq, Prod.mk.injEq] at h
        obtain ⟨rfl, rfl, rfl⟩ := h
        have h := hg188; clear hg188; try dsimp only at h
        refine k_val (v := .bool false) rfl rfl rfl (pSub (pH (pH (pA (pA (pH (pA (pCons (sC (sA hC)) pNil)))))))) (stepV_ok tt_ok rfl) rfl ?_
        refine k_end (by kernel_rfl) ?_
        refine wx_then ?_
        replace h := cf rfl h
        refine wc_cond_false rfl ?_
        refine wc_skip (wx_block (wx_then (wc_region (wP rfl rfl (wP (v := .int .i64 (IntKind.wrap .i64 (zy + (1 : Int)))) rfl rfl (wP rfl rfl (wl_nil ?_)))))))
        exact wx_round m29 (Nat.lt_succ_self m29) ⟨zm, zl, zz, (IntKind.wrap .i64 (zy + (1 : Int))), za.player, za.window, za.sure.Frame, za.sure.Seed, za.sure.Players, za.sure.Shots, za.sure.Score, za.own, ze.first_, ze.l, ze.last, zj.size, zj.places, zbm, zbq, zbo, zbk, zbn, zbr, zbp, zbl, zbt, zbv, zbu, zbs, zcm, zcl, h, zac, zae, zad, zaf, zag, zah, zaq, zap, rfl, rfl⟩ (agree_cons rfl (agree_cons rfl (agree_cons rfl (agree_cons rfl (agree_cons rfl (agree_cons rfl (agree_cons rfl (agree_cons rfl (agree_cons rfl agree_nil))))))))) (pSub (pCons (sC (sC (sA (sA (sC (sA (sC (sA hC)))))))) (pCons (sC hC) (pCons (sC (sA (sA hC))) (pCons (sC (sA (sA (sA hC)))) (pApp (sC hA') (pApp (sC hA') (pApp (sC hA') (pApp (sC hA') pNil)))))))))
      replace h := cf hc h
      refine wq_skip rfl rfl (wq_skip rfl rfl (wq_skip rfl rfl (wq_skip rfl rfl (wq_skip rfl rfl ?_))))
      obtain rfl := sI h
      have h := hg91; clear hg91
      refine wq_run rfl (qP (v := .bool false) rfl rfl ?_)
      obtain rfl := sI h
      have h := hg92; clear hg92
      refine qP (v := .bool false) rfl rfl (wq_nil (wx_then ?_))
      replace h := cf rfl h
      refine wc_cond_false rfl ?_
      refine wc_skip (wx_then (wc_seq (wc_region (wP rfl rfl (wl_nil (wx_then (wc_cond rfl (fun hc => ?_) (fun hc => ?_))))))))
      · replace h := ct hc h
        refine wc_region (wP rfl rfl (wP (v := .int .i64 (IntKind.wrap .i64 (zm + (1 : Int)))) rfl rfl (wP rfl rfl (wl_nil (wx_block (wx_then (wc_seq (wc_seq (wc_region (wP rfl rfl ?_))))))))))
        replace h := bsome h; obtain ⟨v150, x150, h⟩ := h
        refine wl_cq Tryd.call16 rfl rfl rfl (q_rd (k_rollback_Engine_C (p0 := za) (p0_4 := ze) (p0_5 := zj) zac zae zad zaf zag zah zaq zap x150) (pCons (sC hC) (pApp (sC hA') (pApp (sC hA') (pCons (sC hC) (pApp (sC hA') (pCons (sC hC) (pApp (sC hA') pNil))))))) (fun _ _ => trivial)) rfl ?_
        refine wP rfl rfl (wP (v := .int .u64 (IntKind.wrap .u64 (IntKind.wrap .i64 (zm + (1 : Int))))) rfl rfl (wP (v := .bool (v150 != (IntKind.wrap .u64 (IntKind.wrap .i64 (zm + (1 : Int)))))) rfl rfl (wP rfl rfl ?_)))
        replace h := bsome h; obtain ⟨v160, h, hg160⟩ := h
        refine wl_split (t := 154) rfl (fun hc => ?_) (fun hc => ?_)
        · replace h := ct hc h
          refine wl_skip rfl rfl (wl_skip rfl rfl (wl_skip rfl rfl (wl_skip rfl rfl (wl_skip rfl rfl ?_))))
          obtain rfl := sI h
          have h := hg160; clear hg160
          refine wP (v := .bool true) rfl rfl (wP rfl rfl ?_)
          replace h := bsome h; obtain ⟨v167, h, hg167⟩ := h
          replace h := ct rfl h
          refine wl_skip rfl rfl (wl_skip rfl rfl (wl_skip rfl rfl (wl_skip rfl rfl (wl_skip rfl rfl ?_))))
          obtain rfl := sI h
          have h := hg167; clear hg167
          refine wP (v := .bool true) rfl rfl (wP rfl rfl ?_)
          replace h := bsome h; obtain ⟨v174, h, hg174⟩ := h
          replace h := ct rfl h
          refine wl_skip rfl rfl (wl_skip rfl rfl (wl_skip rfl rfl (wl_skip rfl rfl (wl_skip rfl rfl ?_))))
          obtain rfl := sI h
          have h := hg174; clear hg174
          refine wP (v := .bool true) rfl rfl (wl_nil (wx_then ?_))
          replace h := ct rfl h
          refine wc_cond_true rfl ?_
          refine wc_seq (wc_region (wP rfl rfl (wl_nil (wx_then (wc_ret (wx_then_ret (wx_block_ret (wx_then_ret ?_))))))))
          obtain rfl := Option.some.inj h
          have h := hl29; clear hl29; try dsimp only [orE_l, orE_r] at h
          refine wx_then_ret (wx_block_ret (wx_then_ret ?_))
          obtain rfl := sI h
          exact wx_pf tt_ok (.inl rfl) Tryd.results5 (Res.tmp rfl Res.nil) rfl
        replace h := cf hc h
        refine wl_run rfl (wP rfl rfl ?_)
        replace h := bsome h; obtain ⟨v156, x156, h⟩ := h
        refine wl_run rfl (wl_cq Tryd.call17 rfl rfl rfl (q_rd (k_rollback_Engine_T (p0 := za) (p0_4 := ze) (p0_5 := zj) zac zae zad zaf zag zah zaq zap x156) (pCons (sC hC) (pApp (sC hA') (pApp (sC hA') (pCons (sC hC) (pApp (sC hA') (pCons (sC hC) (pApp (sC hA') pNil))))))) (fun _ _ => trivial)) rfl (wl_run rfl (wP rfl rfl (wl_run rfl (wP (v := .int .u64 (IntKind.wrap .u64 zl)) rfl rfl (wl_run rfl (wP (v := .bool (v156 != (IntKind.wrap .u64 zl))) rfl rfl ?_)))))))
        obtain rfl := sI h
        have h := hg160; clear hg160
        refine wP (v := .bool (v156 != (IntKind.wrap .u64 zl))) rfl rfl (wP rfl rfl ?_)
        replace h := bsome h; obtain ⟨v167, h, hg167⟩ := h
        refine wl_split (t := 161) rfl (fun hc => ?_) (fun hc => ?_)
        · replace h := ct hc h
          refine wl_skip rfl rfl (wl_skip rfl rfl (wl_skip rfl rfl (wl_skip rfl rfl (wl_skip rfl rfl ?_))))
          obtain rfl := sI h
          have h := hg167; clear hg167
          refine wP (v := .bool true) rfl rfl (wP rfl rfl ?_)
          replace h := bsome h; obtain ⟨v174, h, hg174⟩ := h
          replace h := ct rfl h
          refine wl_skip rfl rfl (wl_skip rfl rfl (wl_skip rfl rfl (wl_skip rfl rfl (wl_skip rfl rfl ?_))))
          obtain rfl := sI h
          have h := hg174; clear hg174
          refine wP (v := .bool true) rfl rfl (wl_nil (wx_then ?_))
          replace h := ct rfl h
          refine wc_cond_true rfl ?_
          refine wc_seq (wc_region (wP rfl rfl (wl_nil (wx_then (wc_ret (wx_then_ret (wx_block_ret (wx_then_ret ?_))))))))
          obtain rfl := Option.some.inj h
          have h := hl29; clear hl29; try dsimp only [orE_l, orE_r] at h
          refine wx_then_ret (wx_block_ret (wx_then_ret ?_))
          obtain rfl := sI h
          exact wx_pf tt_ok (.inl rfl) Tryd.results5 (Res.tmp rfl Res.nil) rfl
        replace h := cf hc h
        refine wl_run rfl (wP rfl rfl ?_)
        replace h := bsome h; obtain ⟨v163, x163, h⟩ := h
        refine wl_run rfl (wl_cq Tryd.call19 rfl rfl rfl (q_rd (k_rollback_Engine_Known (p0 := za) (p0_4 := ze) (p0_5 := zj) zac zae zad zaf zag zah zaq zap x163) (pCons (sC hC) (pApp (sC hA') (pApp (sC hA') (pCons (sC hC) (pApp (sC hA') (pCons (sC hC) (pApp (sC hA') pNil))))))) (fun _ _ => trivial)) rfl (wl_run rfl (wP rfl rfl (wl_run rfl (wP (v := .int .u64 (IntKind.wrap .u64 zz)) rfl rfl (wl_run rfl (wP (v := .bool (v163 != (IntKind.wrap .u64 zz))) rfl rfl ?_)))))))
        obtain rfl := sI h
        have h := hg167; clear hg167
        refine wP (v := .bool (v163 != (IntKind.wrap .u64 zz))) rfl rfl (wP rfl rfl ?_)
        replace h := bsome h; obtain ⟨v174, h, hg174⟩ := h
        refine wl_split (t := 168) rfl (fun hc => ?_) (fun hc => ?_)
        · replace h := ct hc h
          refine wl_skip rfl rfl (wl_skip rfl rfl (wl_skip rfl rfl (wl_skip rfl rfl (wl_skip rfl rfl ?_))))
          obtain rfl := sI h
          have h := hg174; clear hg174
          refine wP (v := .bool true) rfl rfl (wl_nil (wx_then ?_))
          replace h := ct rfl h
          refine wc_cond_true rfl ?_
          refine wc_seq (wc_region (wP rfl rfl (wl_nil (wx_then (wc_ret (wx_then_ret (wx_block_ret (wx_then_ret ?_))))))))
          obtain rfl := Option.some.inj h
          have h := hl29; clear hl29; try dsimp only [orE_l, orE_r] at h
          refine wx_then_ret (wx_block_ret (wx_then_ret ?_))
          obtain rfl := sI h
          exact wx_pf tt_ok (.inl rfl) Tryd.results5 (Res.tmp rfl Res.nil) rfl
        replace h := cf hc h
        refine wl_run rfl (wP rfl rfl (wl_run rfl (wP rfl rfl (wl_run rfl (wP (v := .int .i64 (IntKind.wrap .i64 (zl - (IntKind.wrap .i64 (zm + (1 : Int)))))) rfl rfl (wl_run rfl (wP rfl rfl (wl_run rfl (wP (v := .bool (decide ((IntKind.wrap .i64 ((1 : Int) + (IntKind.wrap .i64 (Int.tmod p0.Window 12)))) < (IntKind.wrap .i64 (zl - (IntKind.wrap .i64 (zm + (1 : Int)))))))) rfl rfl ?_)))))))))
        obtain rfl := sI h
        have h := hg174; clear hg174
        refine wP (v := .bool (decide ((IntKind.wrap .i64 ((1 : Int) + (IntKind.wrap .i64 (Int.tmod p0.Window 12)))) < (IntKind.wrap .i64 (zl - (IntKind.wrap .i64 (zm + (1 : Int)))))))) rfl rfl (wl_nil (wx_then (wc_cond rfl (fun hc => ?_) (fun hc => ?_))))
        · replace h := ct hc h
          refine wc_seq (wc_region (wP rfl rfl (wl_nil (wx_then (wc_ret (wx_then_ret (wx_block_ret (wx_then_ret ?_))))))))
          obtain rfl := Option.some.inj h
          have h := hl29; clear hl29; try dsimp only [orE_l, orE_r] at h
          refine wx_then_ret (wx_block_ret (wx_then_ret ?_))
          obtain rfl := sI h
          exact wx_pf tt_ok (.inl rfl) Tryd.results5 (Res.tmp rfl Res.nil) rfl
        replace h := cf hc h
        refine wc_skip (wx_then (wc_seq (wc_k2 (Ls := (⟨b15, [.int .u8 zbz.1, .int .u8 zbz.2], 45, (0, 0)⟩ :: (⟨zv, (.int .u8 za.player :: .int .i64 za.window :: .int .u64 za.sure.Frame :: .int .u64 za.sure.Seed :: pl14 za.sure.Players [.slice zbm zbq zbo, .int .u16 za.sure.Score.1, .int .u16 za.sure.Score.2, .slice zbn zbr zbp, .pointer (some ⟨zav, 0, none⟩), .pointer (some ⟨zbw, 0, none⟩)]), 55, (0, 0)⟩ :: (zbk ++ (zbl ++ (⟨zav, [.int .u64 ze.first_, .slice zbt zbv zbu, .int .u8 ze.last], 94, (0, 0)⟩ :: (zbs ++ (⟨b2, [.int .u64 p0.Seed, .int .u8 p0.Player, .int .u8 p0.Window, .slice p0a0 p0n0 p0c0, .slice p0a1 p0n1 p0c1], 25, (0, 0)⟩ :: [])))))))) [5, 10, 11] [] [0, 1, 3, 7, 15, 31, 15, 15, 15, 15, 1023, 2047, 4095, 8191] [0, 1, 2, 3, 4, 6, 7, 8, 9, 5, 10, 11, 12, 13] (by kernel_rfl) (by kernel_rfl) (by kernel_rfl) ?_)))
        refine k_val rfl rfl rfl (pSub (pH (pH (pA (pA (pH (pA (pCons (sC (sA hC)) pNil)))))))) (stepV_ok tt_ok rfl) rfl ?_
        refine k_val (v := .int .i64 (Int.tmod (IntKind.wrap .i64 (IntKind.wrap .u8 (Int.tdiv v56 4))) 3)) rfl rfl rfl (pSub (pH (pH (pA (pA (pH (pA (pCons (sC (sA hC)) pNil)))))))) (stepV_ok tt_ok rfl) rfl ?_
        refine k_val (v := .bool ((Int.tmod (IntKind.wrap .i64 (IntKind.wrap .u8 (Int.tdiv v56 4))) 3) == (0 : Int))) rfl rfl rfl (pSub (pH (pH (pA (pA (pH (pA (pCons (sC (sA hC)) pNil)))))))) (stepV_ok tt_ok rfl) rfl ?_
        refine k_val rfl rfl rfl (pSub (pH (pH (pA (pA (pH (pA (pCons (sC (sA hC)) pNil)))))))) (stepV_ok tt_ok rfl) rfl ?_
        replace h := bsome h; obtain ⟨⟨v188, zbc, zbd⟩, h, hg188⟩ := h
        refine k_split (t := 178) rfl (fun hc => ?_) (fun hc => ?_)
        · replace h := ct hc h
          refine k_val rfl rfl rfl (pSub (pH (pH (pA (pA (pH (pA (pCons (sC (sA hC)) pNil)))))))) (stepV_ok tt_ok rfl) rfl ?_
          refine k_val (v := .agg #[.int .u64 p0.Seed, .int .u8 p0.Player, .int .u8 p0.Window, .slice p0a0 p0n0 p0c0, .slice p0a1 p0n1 p0c1]) rfl rfl rfl (pSub (pH (pH (pA (pA (pH (pA (pCons (sC (sA hC)) pNil)))))))) (val_load tt_ok rfl (mT (mT (mR (mR (mT (mR (mH))))))) rfl) rfl ?_
          refine k_val rfl rfl rfl (pSub (pH (pH (pA (pA (pH (pA (pCons (sC (sA hC)) pNil)))))))) (stepV_ok tt_ok rfl) rfl ?_
          refine k_val rfl rfl rfl (pSub (pH (pH (pA (pA (pH (pA (pCons (sC (sA hC)) pNil)))))))) (stepV_ok tt_ok rfl) rfl ?_
          refine k_val rfl rfl rfl (pSub (pH (pH (pA (pA (pH (pA (pCons (sC (sA hC)) pNil)))))))) (stepV_ok tt_ok rfl) rfl ?_
          replace h := bsome h; obtain ⟨⟨zi, v180⟩, x180, h⟩ := h; try dsimp only at h
          refine k_cs rfl rfl rfl Tryd.call11 rfl rfl rfl (s_sp (k_rollback_Engine_Shown (p0 := za) (p0_4 := ze) (p0_5 := zj) zac zae zad zaf zag zah zaq zap x180) (pCons (sC hC) (pApp (sC hA') (pApp (sC hA') (pCons (sC hC) (pApp (sC hA') (pCons (sC hC) (pApp (sC hA') pNil))))))) (fun w hI => ⟨(Rds.call G0S (pCons (sC hC) (pApp (sC hA') (pApp (sC hA') (pCons (sC hC) (pApp (sC hA') (pCons (sC hC) (pApp (sC hA') pNil))))))) rsub_nil) w hI, (Rds.call G1S (pCons (sC hC) (pApp (sC hA') (pApp (sC hA') (pCons (sC hC) (pApp (sC hA') (pCons (sC hC) (pApp (sC hA') pNil))))))) rsub_nil) w hI⟩)) rfl (.inr (by rintro _ _ ⟨_, ⟨_, _, _, _, _, _, _, _, _, _, rfl, rfl⟩, rfl⟩; exact ⟨_, (pCons (sC (sA (sA (sC (sA (sC (sA (sA hC)))))))) (pH (pA (pA (pH (pA (pCons (sC (sA (sA hC))) pNil)))))))⟩)) ?_
          rintro _ _ ⟨_, ⟨zbb, zba, v180a0, v180n0, v180c0, v180B0, zaz, zay, v180N0, v180V0, rfl, rfl⟩, rfl⟩
          replace h := bsome h; obtain ⟨v185, x185, h⟩ := h
          refine k_cs rfl rfl rfl Tryd.call22 rfl rfl rfl (s_sp (k_hindcastlaw26_Game_shown (p0 := p0) p0N0 p0H0 p0N1 p0H1 x185) pNil (fun w hI => ⟨(Rds.call p0S0 pNil rsub_nil) w hI, (Rds.call p0S1 pNil rsub_nil) w hI, (Rds.call G0S pNil rsub_nil) w hI, (Rds.call G1S pNil rsub_nil) w hI⟩)) rfl (.inr (by rintro _ _ ⟨_, ⟨_, _, _, _, _, _, rfl, rfl⟩, rfl⟩; exact ⟨_, (pCons (sA (sC (sA (sA (sC (sA (sC (sA (sA hC))))))))) (pCons (sA hC) (pApp (sA hA') (pApp (sA hA') (pCons (sA hC) (pApp (sA hA') (pCons (sA (sC (sA (sA hC)))) pNil)))))))⟩)) ?_
          rintro _ _ ⟨_, ⟨v185a0, v185n0, v185c0, v185B0, v185N0, v185V0, rfl, rfl⟩, rfl⟩
          replace h := bsome h; obtain ⟨v186, x186, h⟩ := h
          refine k_cq rfl rfl rfl Tryd.call14 rfl rfl rfl (q_pf (k_state_Same (p0 := v180) (p1 := v185) v180N0 (vec_cap v180V0) v185N0 (vec_cap v185V0) x186) (fun w hI => ⟨(Rds.call (Rds.of_vec v180V0) pNil ⟨_, (sA (sC (sA (sA (sC (sA (sC (sA hA'))))))))⟩) w hI, (Rds.call (Rds.of_vec v185V0) pNil ⟨_, hA'⟩) w hI⟩)) rfl (pSub (pCons (sA (sC (sA (sA (sC (sA (sC (sA (sA hC))))))))) (pCons (sA hC) (pApp (sA hA') (pApp (sA hA') (pCons (sA hC) (pApp (sA hA') (pCons (sA (sC (sA (sA hC)))) pNil)))))))) ?_
          refine k_val (v := .bool (!v186)) rfl rfl rfl (pSub (pCons (sA (sC (sA (sA (sC (sA (sC (sA (sA hC))))))))) (pCons (sA hC) (pApp (sA hA') (pApp (sA hA') (pCons (sA hC) (pApp (sA hA') (pCons (sA (sC (sA (sA hC)))) pNil)))))))) (stepV_ok tt_ok rfl) rfl ?_
          simp only [Option.some.injEq, Prod.mk.injEq] at h
          obtain ⟨rfl, rfl, rfl⟩ := h
          have h := hg188; clear hg188; try dsimp only at h
          refine k_val (v := .bool (!v186)) rfl rfl rfl (pSub (pCons (sA (sC (sA (sA (sC (sA (sC (sA (sA hC))))))))) (pCons (sA hC) (pApp (sA hA') (pApp (sA hA') (pCons (sA hC) (pApp (sA hA') (pCons (sA (sC (sA (sA hC)))) pNil)))))))) (stepV_ok tt_ok rfl) rfl ?_
          refine k_end (by kernel_rfl) ?_
          refine wx_then (wc_cond rfl (fun hc => ?_) (fun hc => ?_))
          · replace h := ct hc h
            refine wc_seq (wc_region (wP rfl rfl (wl_nil (wx_then (wc_ret (wx_block_ret (wx_then_ret ?_)))))))
            obtain rfl := Option.some.inj h
            have h := hl29; clear hl29; try dsimp only [orE_l, orE_r] at h
            refine wx_then_ret (wx_block_ret (wx_then_ret ?_))
            obtain rfl := sI h
            exact wx_pf tt_ok (.inl rfl) Tryd.results5 (Res.tmp rfl Res.nil) rfl
          replace h := cf hc h
          refine wc_skip (wx_block (wx_then (wc_region (wP rfl rfl (wP (v := .int .i64 (IntKind.wrap .i64 (zy + (1 : Int)))) rfl rfl (wP rfl rfl (wl_nil ?_)))))))
          exact wx_round m29 (Nat.lt_succ_self m29) ⟨(IntKind.wrap .i64 (zm + (1 : Int))), zl, zz, (IntKind.wrap .i64 (zy + (1 : Int))), za.player, za.window, za.sure.Frame, za.sure.Seed, za.sure.Players, za.sure.Shots, za.sure.Score, za.own, ze.first_, ze.l, ze.last, zi.size, zi.places, zbm, zbq, zbo, zbk, zbn, zbr, zbp, zbl, zbt, zbv, zbu, zbs, zbb, zba, h, zac, zae, zad, zaf, zag, zah, zaz, zay, rfl, rfl⟩ (agree_cons rfl (agree_cons rfl (agree_cons rfl (agree_cons rfl (agree_cons rfl (agree_cons rfl (agree_cons rfl (agree_cons rfl (agree_cons rfl agree_nil))))))))) (pSub (pCons (sA (sC (sA (sA (sC (sA (sC (sA (sA (sC hC)))))))))) (pCons (sA hC) (pCons (sA (sA (sA hC))) (pCons (sA (sA (sA (sA hC)))) (pApp (sA hA') (pApp (sA hA') (pApp (sA hA') (pApp (sA hA') pNil)))))))))
        replace h := cf hc h
        refine k_skip rfl rfl (pSub (pH (pH (pA (pA (pH (pA (pCons (sC (sA hC)) pNil)))))))) rfl ?_
        refine k_skip rfl rfl (pSub (pH (pH (pA (pA (pH (pA (pCons (sC (sA hC)) pNil)))))))) rfl ?_
        refine k_skip rfl rfl (pSub (pH (pH (pA (pA (pH (pA (pCons (sC (sA hC)) pNil)))))))) rfl ?_
        refine k_skip rfl rfl (pSub (pH (pH (pA (pA (pH (pA (pCons (sC (sA hC)) pNil)))))))) rfl ?_
        refine k_skip rfl rfl (pSub (pH (pH (pA (pA (pH (pA (pCons (sC (sA hC)) pNil)))))))) rfl ?_
        refine k_skip rfl rfl (pSub (pH (pH (pA (pA (pH (pA (pCons (sC (sA hC)) pNil)))))))) rfl ?_
        refine k_skip rfl rfl (pSub (pH (pH (pA (pA (pH (pA (pCons (sC (sA hC)) pNil)))))))) rfl ?_
        refine k_skip rfl rfl (pSub (pH (pH (pA (pA (pH (pA (pCons (sC (sA hC)) pNil)))))))) rfl ?_
        refine k_skip rfl rfl (pSub (pH (pH (pA (pA (pH (pA (pCons (sC (sA hC)) pNil)))))))) rfl ?_
        simp only [Option.some.injEq, Prod.mk.injEq] at h
        obtain ⟨rfl, rfl, rfl⟩ := h
        have h := hg188; clear hg188; try dsimp only at h
        refine k_val (v := .bool false) rfl rfl rfl (pSub (pH (pH (pA (pA (pH (pA (pCons (sC (sA hC)) pNil)))))))) (stepV_ok tt_ok rfl) rfl ?_
        refine k_end (by kernel_rfl) ?_
        refine wx_then ?_
        replace h := cf rfl h
        refine wc_cond_false rfl ?_
        refine wc_skip (wx_block (wx_then (wc_region (wP rfl rfl (wP (v := .int .i64 (IntKind.wrap .i64 (zy + (1 : Int)))) rfl rfl (wP rfl rfl (wl_nil ?_)))))))
        exact wx_round m29 (Nat.lt_succ_self m29) ⟨(IntKind.wrap .i64 (zm + (1 : Int))), zl, zz, (IntKind.wrap .i64 (zy + (1 : Int))), za.player, za.window, za.sure.Frame, za.sure.Seed, za.sure.Players, za.sure.Shots, za.sure.Score, za.own, ze.first_, ze.l, ze.last, zj.size, zj.places, zbm, zbq, zbo, zbk, zbn, zbr, zbp, zbl, zbt, zbv, zbu, zbs, zcm, zcl, h, zac, zae, zad, zaf, zag, zah, zaq, zap, rfl, rfl⟩ (agree_cons rfl (agree_cons rfl (agree_cons rfl (agree_cons rfl (agree_cons rfl (agree_cons rfl (agree_cons rfl (agree_cons rfl (agree_cons rfl agree_nil))))))))) (pSub (pCons (sC (sC (sA (sA (sC (sA (sC (sA hC)))))))) (pCons (sC hC) (pCons (sC (sA (sA hC))) (pCons (sC (sA (sA (sA hC)))) (pApp (sC hA') (pApp (sC hA') (pApp (sC hA') (pApp (sC hA') pNil)))))))))
      replace h := cf hc h
      refine wc_skip (wx_block (wx_then (wc_seq (wc_seq (wc_region (wP rfl rfl ?_))))))
      replace h := bsome h; obtain ⟨v150, x150, h⟩ := h
      refine wl_cq Tryd.call16 rfl rfl rfl (q_rd (k_rollback_Engine_C (p0 := za) (p0_4 := ze) (p0_5 := zj) zac zae zad zaf zag zah zaq zap x150) (pCons (sC hC) (pApp (sC hA') (pApp (sC hA') (pCons (sC hC) (pApp (sC hA') (pCons (sC hC) (pApp (sC hA') pNil))))))) (fun _ _ => trivial)) rfl ?_
      refine wP rfl rfl (wP (v := .int .u64 (IntKind.wrap .u64 zm)) rfl rfl (wP (v := .bool (v150 != (IntKind.wrap .u64 zm))) rfl rfl (wP rfl rfl ?_)))
      replace h := bsome h; obtain ⟨v160, h, hg160⟩ := h
      refine wl_split (t := 154) rfl (fun hc => ?_) (fun hc => ?_)
      · replace h := ct hc h
        refine wl_skip rfl rfl (wl_skip rfl rfl (wl_skip rfl rfl (wl_skip rfl rfl (wl_skip rfl rfl ?_))))
        obtain rfl := sI h
        have h := hg160; clear hg160
        refine wP (v := .bool true) rfl rfl (wP rfl rfl ?_)
        replace h := bsome h; obtain ⟨v167, h, hg167⟩ := h
        replace h := ct rfl h
        refine wl_skip rfl rfl (wl_skip rfl rfl (wl_skip rfl rfl (wl_skip rfl rfl (wl_skip rfl rfl ?_))))
        obtain rfl := sI h
        have h := hg167; clear hg167
        refine wP (v := .bool true) rfl rfl (wP rfl rfl ?_)
        replace h := bsome h; obtain ⟨v174, h, hg174⟩ := h
        replace h := ct rfl h
        refine wl_skip rfl rfl (wl_skip rfl rfl (wl_skip rfl rfl (wl_skip rfl rfl (wl_skip rfl rfl ?_))))
        obtain rfl := sI h
        have h := hg174; clear hg174
        refine wP (v := .bool true) rfl rfl (wl_nil (wx_then ?_))
        replace h := ct rfl h
        refine wc_cond_true rfl ?_
        refine wc_seq (wc_region (wP rfl rfl (wl_nil (wx_then (wc_ret (wx_then_ret (wx_block_ret (wx_then_ret ?_))))))))
        obtain rfl := Option.some.inj h
        have h := hl29; clear hl29; try dsimp only [orE_l, orE_r] at h
        refine wx_then_ret (wx_block_ret (wx_then_ret ?_))
        obtain rfl := sI h
        exact wx_pf tt_ok (.inl rfl) Tryd.results5 (Res.tmp rfl Res.nil) rfl
      replace h := cf hc h
      refine wl_run rfl (wP rfl rfl ?_)
      replace h := bsome h; obtain ⟨v156, x156, h⟩ := h
      refine wl_run rfl (wl_cq Tryd.call17 rfl rfl rfl (q_rd (k_rollback_Engine_T (p0 := za) (p0_4 := ze) (p0_5 := zj) zac zae zad zaf zag zah zaq zap x156) (pCons (sC hC) (pApp (sC hA') (pApp (sC hA') (pCons (sC hC) (pApp (sC hA') (pCons (sC hC) (pApp (sC hA') pNil))))))) (fun _ _ => trivial)) rfl (wl_run rfl (wP rfl rfl (wl_run rfl (wP (v := .int .u64 (IntKind.wrap .u64 zl)) rfl rfl (wl_run rfl (wP (v := .bool (v156 != (IntKind.wrap .u64 zl))) rfl rfl ?_)))))))
      obtain rfl := sI h
      have h := hg160; clear hg160
      refine wP (v := .bool (v156 != (IntKind.wrap .u64 zl))) rfl rfl (wP rfl rfl ?_)
      replace h := bsome h; obtain ⟨v167, h, hg167⟩ := h
      refine wl_split (t := 161) rfl (fun hc => ?_) (fun hc => ?_)
      · replace h := ct hc h
        refine wl_skip rfl rfl (wl_skip rfl rfl (wl_skip rfl rfl (wl_skip rfl rfl (wl_skip rfl rfl ?_))))
        obtain rfl := sI h
        have h := hg167; clear hg167
        refine wP (v := .bool true) rfl rfl (wP rfl rfl ?_)
        replace h := bsome h; obtain ⟨v174, h, hg174⟩ := h
        replace h := ct rfl h
        refine wl_skip rfl rfl (wl_skip rfl rfl (wl_skip rfl rfl (wl_skip rfl rfl (wl_skip rfl rfl ?_))))
        obtain rfl := sI h
        have h := hg174; clear hg174
        refine wP (v := .bool true) rfl rfl (wl_nil (wx_then ?_))
        replace h := ct rfl h
        refine wc_cond_true rfl ?_
        refine wc_seq (wc_region (wP rfl rfl (wl_nil (wx_then (wc_ret (wx_then_ret (wx_block_ret (wx_then_ret ?_))))))))
        obtain rfl := Option.some.inj h
        have h := hl29; clear hl29; try dsimp only [orE_l, orE_r] at h
        refine wx_then_ret (wx_block_ret (wx_then_ret ?_))
        obtain rfl := sI h
        exact wx_pf tt_ok (.inl rfl) Tryd.results5 (Res.tmp rfl Res.nil) rfl
      replace h := cf hc h
      refine wl_run rfl (wP rfl rfl ?_)
      replace h := bsome h; obtain ⟨v163, x163, h⟩ := h
      refine wl_run rfl (wl_cq Tryd.call19 rfl rfl rfl (q_rd (k_rollback_Engine_Known (p0 := za) (p0_4 := ze) (p0_5 := zj) zac zae zad zaf zag zah zaq zap x163) (pCons (sC hC) (pApp (sC hA') (pApp (sC hA') (pCons (sC hC) (pApp (sC hA') (pCons (sC hC) (pApp (sC hA') pNil))))))) (fun _ _ => trivial)) rfl (wl_run rfl (wP rfl rfl (wl_run rfl (wP (v := .int .u64 (IntKind.wrap .u64 zz)) rfl rfl (wl_run rfl (wP (v := .bool (v163 != (IntKind.wrap .u64 zz))) rfl rfl ?_)))))))
      obtain rfl := sI h
      have h := hg167; clear hg167
      refine wP (v := .bool (v163 != (IntKind.wrap .u64 zz))) rfl rfl (wP rfl rfl ?_)
      replace h := bsome h; obtain ⟨v174, h, hg174⟩ := h
      refine wl_split (t := 168) rfl (fun hc => ?_) (fun hc => ?_)
      · replace h := ct hc h
        refine wl_skip rfl rfl (wl_skip rfl rfl (wl_skip rfl rfl (wl_skip rfl rfl (wl_skip rfl rfl ?_))))
        obtain rfl := sI h
        have h := hg174; clear hg174
        refine wP (v := .bool true) rfl rfl (wl_nil (wx_then ?_))
        replace h := ct rfl h
        refine wc_cond_true rfl ?_
        refine wc_seq (wc_region (wP rfl rfl (wl_nil (wx_then (wc_ret (wx_then_ret (wx_block_ret (wx_then_ret ?_))))))))
        obtain rfl := Option.some.inj h
        have h := hl29; clear hl29; try dsimp only [orE_l, orE_r] at h
        refine wx_then_ret (wx_block_ret (wx_then_ret ?_))
        obtain rfl := sI h
        exact wx_pf tt_ok (.inl rfl) Tryd.results5 (Res.tmp rfl Res.nil) rfl
      replace h := cf hc h
      refine wl_run rfl (wP rfl rfl (wl_run rfl (wP rfl rfl (wl_run rfl (wP (v := .int .i64 (IntKind.wrap .i64 (zl - zm))) rfl rfl (wl_run rfl (wP rfl rfl (wl_run rfl (wP (v := .bool (decide ((IntKind.wrap .i64 ((1 : Int) + (IntKind.wrap .i64 (Int.tmod p0.Window 12)))) < (IntKind.wrap .i64 (zl - zm))))) rfl rfl ?_)))))))))
      obtain rfl := sI h
      have h := hg174; clear hg174
      refine wP (v := .bool (decide ((IntKind.wrap .i64 ((1 : Int) + (IntKind.wrap .i64 (Int.tmod p0.Window 12)))) < (IntKind.wrap .i64 (zl - zm))))) rfl rfl (wl_nil (wx_then (wc_cond rfl (fun hc => ?_) (fun hc => ?_))))
      · replace h := ct hc h
        refine wc_seq (wc_region (wP rfl rfl (wl_nil (wx_then (wc_ret (wx_then_ret (wx_block_ret (wx_then_ret ?_))))))))
        obtain rfl := Option.some.inj h
        have h := hl29; clear hl29; try dsimp only [orE_l, orE_r] at h
        refine wx_then_ret (wx_block_ret (wx_then_ret ?_))
        obtain rfl := sI h
        exact wx_pf tt_ok (.inl rfl) Tryd.results5 (Res.tmp rfl Res.nil) rfl
      replace h := cf hc h
      refine wc_skip (wx_then (wc_seq (wc_k2 (Ls := (⟨b15, [.int .u8 zbz.1, .int .u8 zbz.2], 45, (0, 0)⟩ :: (⟨zv, (.int .u8 za.player :: .int .i64 za.window :: .int .u64 za.sure.Frame :: .int .u64 za.sure.Seed :: pl14 za.sure.Players [.slice zbm zbq zbo, .int .u16 za.sure.Score.1, .int .u16 za.sure.Score.2, .slice zbn zbr zbp, .pointer (some ⟨zav, 0, none⟩), .pointer (some ⟨zbw, 0, none⟩)]), 55, (0, 0)⟩ :: (zbk ++ (zbl ++ (⟨zav, [.int .u64 ze.first_, .slice zbt zbv zbu, .int .u8 ze.last], 94, (0, 0)⟩ :: (zbs ++ (⟨b2, [.int .u64 p0.Seed, .int .u8 p0.Player, .int .u8 p0.Window, .slice p0a0 p0n0 p0c0, .slice p0a1 p0n1 p0c1], 25, (0, 0)⟩ :: [])))))))) [5, 10, 11] [] [0, 1, 3, 7, 15, 31, 15, 15, 15, 15, 1023, 2047, 4095, 8191] [0, 1, 2, 3, 4, 6, 7, 8, 9, 5, 10, 11, 12, 13] (by kernel_rfl) (by kernel_rfl) (by kernel_rfl) ?_)))
      refine k_val rfl rfl rfl (pSub (pH (pH (pA (pA (pH (pA (pCons (sC (sA hC)) pNil)))))))) (stepV_ok tt_ok rfl) rfl ?_
      refine k_val (v := .int .i64 (Int.tmod (IntKind.wrap .i64 (IntKind.wrap .u8 (Int.tdiv v56 4))) 3)) rfl rfl rfl (pSub (pH (pH (pA (pA (pH (pA (pCons (sC (sA hC)) pNil)))))))) (stepV_ok tt_ok rfl) rfl ?_
      refine k_val (v := .bool ((Int.tmod (IntKind.wrap .i64 (IntKind.wrap .u8 (Int.tdiv v56 4))) 3) == (0 : Int))) rfl rfl rfl (pSub (pH (pH (pA (pA (pH (pA (pCons (sC (sA hC)) pNil)))))))) (stepV_ok tt_ok rfl) rfl ?_
      refine k_val rfl rfl rfl (pSub (pH (pH (pA (pA (pH (pA (pCons (sC (sA hC)) pNil)))))))) (stepV_ok tt_ok rfl) rfl ?_
      replace h := bsome h; obtain ⟨⟨v188, zbc, zbd⟩, h, hg188⟩ := h
      refine k_split (t := 178) rfl (fun hc => ?_) (fun hc => ?_)
      · replace h := ct hc h
        refine k_val rfl rfl rfl (pSub (pH (pH (pA (pA (pH (pA (pCons (sC (sA hC)) pNil)))))))) (stepV_ok tt_ok rfl) rfl ?_
        refine k_val (v := .agg #[.int .u64 p0.Seed, .int .u8 p0.Player, .int .u8 p0.Window, .slice p0a0 p0n0 p0c0, .slice p0a1 p0n1 p0c1]) rfl rfl rfl (pSub (pH (pH (pA (pA (pH (pA (pCons (sC (sA hC)) pNil)))))))) (val_load tt_ok rfl (mT (mT (mR (mR (mT (mR (mH))))))) rfl) rfl ?_
        refine k_val rfl rfl rfl (pSub (pH (pH (pA (pA (pH (pA (pCons (sC (sA hC)) pNil)))))))) (stepV_ok tt_ok rfl) rfl ?_
        refine k_val rfl rfl rfl (pSub (pH (pH (pA (pA (pH (pA (pCons (sC (sA hC)) pNil)))))))) (stepV_ok tt_ok rfl) rfl ?_
        refine k_val rfl rfl rfl (pSub (pH (pH (pA (pA (pH (pA (pCons (sC (sA hC)) pNil)))))))) (stepV_ok tt_ok rfl) rfl ?_
        replace h := bsome h; obtain ⟨⟨zi, v180⟩, x180, h⟩ := h; try dsimp only at h
        refine k_cs rfl rfl rfl Tryd.call11 rfl rfl rfl (s_sp (k_rollback_Engine_Shown (p0 := za) (p0_4 := ze) (p0_5 := zj) zac zae zad zaf zag zah zaq zap x180) (pCons (sC hC) (pApp (sC hA') (pApp (sC hA') (pCons (sC hC) (pApp (sC hA') (pCons (sC hC) (pApp (sC hA') pNil))))))) (fun w hI => ⟨(Rds.call G0S (pCons (sC hC) (pApp (sC hA') (pApp (sC hA') (pCons (sC hC) (pApp (sC hA') (pCons (sC hC) (pApp (sC hA') pNil))))))) rsub_nil) w hI, (Rds.call G1S (pCons (sC hC) (pApp (sC hA') (pApp (sC hA') (pCons (sC hC) (pApp (sC hA') (pCons (sC hC) (pApp (sC hA') pNil))))))) rsub_nil) w hI⟩)) rfl (.inr (by rintro _ _ ⟨_, ⟨_, _, _, _, _, _, _, _, _, _, rfl, rfl⟩, rfl⟩; exact ⟨_, (pCons (sC (sA (sA (sC (sA (sC (sA (sA hC)))))))) (pH (pA (pA (pH (pA (pCons (sC (sA (sA hC))) pNil)))))))⟩)) ?_
        rintro _ _ ⟨_, ⟨zbb, zba, v180a0, v180n0, v180c0, v180B0, zaz, zay, v180N0, v180V0, rfl, rfl⟩, rfl⟩
        replace h := bsome h; obtain ⟨v185, x185, h⟩ := h
        refine k_cs rfl rfl rfl Tryd.call22 rfl rfl rfl (s_sp (k_hindcastlaw26_Game_shown (p0 := p0) p0N0 p0H0 p0N1 p0H1 x185) pNil (fun w hI => ⟨(Rds.call p0S0 pNil rsub_nil) w hI, (Rds.call p0S1 pNil rsub_nil) w hI, (Rds.call G0S pNil rsub_nil) w hI, (Rds.call G1S pNil rsub_nil) w hI⟩)) rfl (.inr (by rintro _ _ ⟨_, ⟨_, _, _, _, _, _, rfl, rfl⟩, rfl⟩; exact ⟨_, (pCons (sA (sC (sA (sA (sC (sA (sC (sA (sA hC))))))))) (pCons (sA hC) (pApp (sA hA') (pApp (sA hA') (pCons (sA hC) (pApp (sA hA') (pCons (sA (sC (sA (sA hC)))) pNil)))))))⟩)) ?_
        rintro _ _ ⟨_, ⟨v185a0, v185n0, v185c0, v185B0, v185N0, v185V0, rfl, rfl⟩, rfl⟩
        replace h := bsome h; obtain ⟨v186, x186, h⟩ := h
        refine k_cq rfl rfl rfl Tryd.call14 rfl rfl rfl (q_pf (k_state_Same (p0 := v180) (p1 := v185) v180N0 (vec_cap v180V0) v185N0 (vec_cap v185V0) x186) (fun w hI => ⟨(Rds.call (Rds.of_vec v180V0) pNil ⟨_, (sA (sC (sA (sA (sC (sA (sC (sA hA'))))))))⟩) w hI, (Rds.call (Rds.of_vec v185V0) pNil ⟨_, hA'⟩) w hI⟩)) rfl (pSub (pCons (sA (sC (sA (sA (sC (sA (sC (sA (sA hC))))))))) (pCons (sA hC) (pApp (sA hA') (pApp (sA hA') (pCons (sA hC) (pApp (sA hA') (pCons (sA (sC (sA (sA hC)))) pNil)))))))) ?_
        refine k_val (v := .bool (!v186)) rfl rfl rfl (pSub (pCons (sA (sC (sA (sA (sC (sA (sC (sA (sA hC))))))))) (pCons (sA hC) (pApp (sA hA') (pApp (sA hA') (pCons (sA hC) (pApp (sA hA') (pCons (sA (sC (sA (sA hC)))) pNil)))))))) (stepV_ok tt_ok rfl) rfl ?_
        simp only [Option.some.injEq, Prod.mk.injEq] at h
        obtain ⟨rfl, rfl, rfl⟩ := h
        have h := hg188; clear hg188; try dsimp only at h
        refine k_val (v := .bool (!v186)) rfl rfl rfl (pSub (pCons (sA (sC (sA (sA (sC (sA (sC (sA (sA hC))))))))) (pCons (sA hC) (pApp (sA hA') (pApp (sA hA') (pCons (sA hC) (pApp (sA hA') (pCons (sA (sC (sA (sA hC)))) pNil)))))))) (stepV_ok tt_ok rfl) rfl ?_
        refine k_end (by kernel_rfl) ?_
        refine wx_then (wc_cond rfl (fun hc => ?_) (fun hc => ?_))
        · replace h := ct hc h
          refine wc_seq (wc_region (wP rfl rfl (wl_nil (wx_then (wc_ret (wx_block_ret (wx_then_ret ?_)))))))
          obtain rfl := Option.some.inj h
          have h := hl29; clear hl29; try dsimp only [orE_l, orE_r] at h
          refine wx_then_ret (wx_block_ret (wx_then_ret ?_))
          obtain rfl := sI h
          exact wx_pf tt_ok (.inl rfl) Tryd.results5 (Res.tmp rfl Res.nil) rfl
        replace h := cf hc h
        refine wc_skip (wx_block (wx_then (wc_region (wP rfl rfl (wP (v := .int .i64 (IntKind.wrap .i64 (zy + (1 : Int)))) rfl rfl (wP rfl rfl (wl_nil ?_)))))))
        exact wx_round m29 (Nat.lt_succ_self m29) ⟨zm, zl, zz, (IntKind.wrap .i64 (zy + (1 : Int))), za.player, za.window, za.sure.Frame, za.sure.Seed, za.sure.Players, za.sure.Shots, za.sure.Score, za.own, ze.first_, ze.l, ze.last, zi.size, zi.places, zbm, zbq, zbo, zbk, zbn, zbr, zbp, zbl, zbt, zbv, zbu, zbs, zbb, zba, h, zac, zae, zad, zaf, zag, zah, zaz, zay, rfl, rfl⟩ (agree_cons rfl (agree_cons rfl (agree_cons rfl (agree_cons rfl (agree_cons rfl (agree_cons rfl (agree_cons rfl (agree_cons rfl (agree_cons rfl agree_nil))))))))) (pSub (pCons (sA (sC (sA (sA (sC (sA (sC (sA (sA (sC hC)))))))))) (pCons (sA hC) (pCons (sA (sA (sA hC))) (pCons (sA (sA (sA (sA hC)))) (pApp (sA hA') (pApp (sA hA') (pApp (sA hA') (pApp (sA hA') pNil)))))))))
      replace h := cf hc h
      refine k_skip rfl rfl (pSub (pH (pH (pA (pA (pH (pA (pCons (sC (sA hC)) pNil)))))))) rfl ?_
      refine k_skip rfl rfl (pSub (pH (pH (pA (pA (pH (pA (pCons (sC (sA hC)) pNil)))))))) rfl ?_
      refine k_skip rfl rfl (pSub (pH (pH (pA (pA (pH (pA (pCons (sC (sA hC)) pNil)))))))) rfl ?_
      refine k_skip rfl rfl (pSub (pH (pH (pA (pA (pH (pA (pCons (sC (sA hC)) pNil)))))))) rfl ?_
      refine k_skip rfl rfl (pSub (pH (pH (pA (pA (pH (pA (pCons (sC (sA hC)) pNil)))))))) rfl ?_
      refine k_skip rfl rfl (pSub (pH (pH (pA (pA (pH (pA (pCons (sC (sA hC)) pNil)))))))) rfl ?_
      refine k_skip rfl rfl (pSub (pH (pH (pA (pA (pH (pA (pCons (sC (sA hC)) pNil)))))))) rfl ?_
      refine k_skip rfl rfl (pSub (pH (pH (pA (pA (pH (pA (pCons (sC (sA hC)) pNil)))))))) rfl ?_
      refine k_skip rfl rfl (pSub (pH (pH (pA (pA (pH (pA (pCons (sC (sA hC)) pNil)))))))) rfl ?_
      simp only [Option.some.injEq, Prod.mk.injEq] at h
      obtain ⟨rfl, rfl, rfl⟩ := h
      have h := hg188; clear hg188; try dsimp only at h
      refine k_val (v := .bool false) rfl rfl rfl (pSub (pH (pH (pA (pA (pH (pA (pCons (sC (sA hC)) pNil)))))))) (stepV_ok tt_ok rfl) rfl ?_
      refine k_end (by kernel_rfl) ?_
      refine wx_then ?_
      replace h := cf rfl h
      refine wc_cond_false rfl ?_
      refine wc_skip (wx_block (wx_then (wc_region (wP rfl rfl (wP (v := .int .i64 (IntKind.wrap .i64 (zy + (1 : Int)))) rfl rfl (wP rfl rfl (wl_nil ?_)))))))
      exact wx_round m29 (Nat.lt_succ_self m29) ⟨zm, zl, zz, (IntKind.wrap .i64 (zy + (1 : Int))), za.player, za.window, za.sure.Frame, za.sure.Seed, za.sure.Players, za.sure.Shots, za.sure.Score, za.own, ze.first_, ze.l, ze.last, zj.size, zj.places, zbm, zbq, zbo, zbk, zbn, zbr, zbp, zbl, zbt, zbv, zbu, zbs, zcm, zcl, h, zac, zae, zad, zaf, zag, zah, zaq, zap, rfl, rfl⟩ (agree_cons rfl (agree_cons rfl (agree_cons rfl (agree_cons rfl (agree_cons rfl (agree_cons rfl (agree_cons rfl (agree_cons rfl (agree_cons rfl agree_nil))))))))) (pSub (pCons (sC (sC (sA (sA (sC (sA (sC (sA hC)))))))) (pCons (sC hC) (pCons (sC (sA (sA hC))) (pCons (sC (sA (sA (sA hC)))) (pApp (sC hA') (pApp (sC hA') (pApp (sC hA') (pApp (sC hA') pNil)))))))))
    replace h := cf hc h
    refine wq_skip rfl rfl (wq_skip rfl rfl (wq_skip rfl rfl ?_))
    obtain rfl := sI h
    have h := hg81; clear hg81
    refine qP (v := .bool false) rfl rfl (qP (v := .bool (zda != false)) rfl rfl (qP rfl rfl ?_))
    replace h := bsome h; obtain ⟨v92, h, hg92⟩ := h
    refine wq_split (t := 83) rfl (fun hc => ?_) (fun hc => ?_)
    · replace h := ct hc h
      refine wq_skip rfl rfl (wq_skip rfl rfl (wq_skip rfl rfl (wq_skip rfl rfl (wq_skip rfl rfl (wq_skip rfl rfl (wq_skip rfl rfl (wq_skip rfl rfl ?_)))))))
      obtain rfl := sI h
      have h := hg92; clear hg92
      refine qP (v := .bool true) rfl rfl (wq_nil (wx_then ?_))
      replace h := ct rfl h
      refine wc_cond_true rfl ?_
      refine wc_seq (wc_region (wP rfl rfl (wl_nil (wx_then (wc_ret (wx_then_ret (wx_block_ret (wx_then_ret (wx_block_ret (wx_then_ret ?_))))))))))
      obtain rfl := Option.some.inj h
      have h := hl29; clear hl29; try dsimp only [orE_l, orE_r] at h
      refine wx_then_ret (wx_block_ret (wx_then_ret ?_))
      obtain rfl := sI h
      exact wx_pf tt_ok (.inl rfl) Tryd.results5 (Res.tmp rfl Res.nil) rfl
    replace h := cf hc h
    refine wq_run rfl (qP rfl rfl (wq_run rfl (qP rfl rfl ?_)))
    replace h := bsome h; obtain ⟨v91, h, hg91⟩ := h
    refine wq_split (t := 85) rfl (fun hc => ?_) (fun hc => ?_)
    · replace h := ct hc h
      refine wq_run rfl (wq_val (v := .agg #[.int .u8 zbz.1, .int .u8 zbz.2]) (val_load tt_ok rfl (mH) rfl) rfl (wq_run rfl (wq_val (v := .agg #[.int .u64 p0.Seed, .int .u8 p0.Player, .int .u8 p0.Window, .slice p0a0 p0n0 p0c0, .slice p0a1 p0n1 p0c1]) (val_load tt_ok rfl (mT (mT (mR (mR (mT (mR (mT (mR (mH))))))))) rfl) rfl (wq_run rfl (qP rfl rfl ?_)))))
      replace h := bsome h; obtain ⟨v89, x89, h⟩ := h
      refine wq_run rfl (wq_cq Tryd.call21 rfl rfl rfl (q_pf (k_hindcastlaw26_Game_pair (p0 := p0) p0N0 p0H0 p0N1 p0H1 x89) (fun w hI => ⟨(Rds.call p0S0 pNil rsub_nil) w hI, (Rds.call p0S1 pNil rsub_nil) w hI⟩)) rfl (wq_run rfl (wq_val (v := .bool (!((zbz.1 == v89.1) && (zbz.2 == v89.2)))) (val_nes tt_ok tt_eq tt_one Tryd.eqGuardType45 rfl rfl rfl rfl rfl) rfl ?_)))
      obtain rfl := sI h
      have h := hg91; clear hg91
      refine wq_run rfl (qP (v := .bool (!((zbz.1 == v89.1) && (zbz.2 == v89.2)))) rfl rfl ?_)
      obtain rfl := sI h
      have h := hg92; clear hg92
      refine qP (v := .bool (!((zbz.1 == v89.1) && (zbz.2 == v89.2)))) rfl rfl (wq_nil (wx_then (wc_cond rfl (fun hc => ?_) (fun hc => ?_))))
      · replace h := ct hc h
        refine wc_seq (wc_region (wP rfl rfl (wl_nil (wx_then (wc_ret (wx_then_ret (wx_block_ret (wx_then_ret (wx_block_ret (wx_then_ret ?_))))))))))
        obtain rfl := Option.some.inj h
        have h := hl29; clear hl29; try dsimp only [orE_l, orE_r] at h
        refine wx_then_ret (wx_block_ret (wx_then_ret ?_))
        obtain rfl := sI h
        exact wx_pf tt_ok (.inl rfl) Tryd.results5 (Res.tmp rfl Res.nil) rfl
      replace h := cf hc h
      refine wc_skip (wx_then (wc_seq (wc_region (wP rfl rfl (wl_nil (wx_then (wc_cond rfl (fun hc => ?_) (fun hc => ?_))))))))
      · replace h := ct hc h
        refine wc_region (wP rfl rfl (wP (v := .int .i64 (IntKind.wrap .i64 (zm + (1 : Int)))) rfl rfl (wP rfl rfl (wl_nil (wx_block (wx_then (wc_seq (wc_seq (wc_region (wP rfl rfl ?_))))))))))
        replace h := bsome h; obtain ⟨v150, x150, h⟩ := h
        refine wl_cq Tryd.call16 rfl rfl rfl (q_rd (k_rollback_Engine_C (p0 := za) (p0_4 := ze) (p0_5 := zj) zac zae zad zaf zag zah zaq zap x150) (pCons (sC hC) (pApp (sC hA') (pApp (sC hA') (pCons (sC hC) (pApp (sC hA') (pCons (sC hC) (pApp (sC hA') pNil))))))) (fun _ _ => trivial)) rfl ?_
        refine wP rfl rfl (wP (v := .int .u64 (IntKind.wrap .u64 (IntKind.wrap .i64 (zm + (1 : Int))))) rfl rfl (wP (v := .bool (v150 != (IntKind.wrap .u64 (IntKind.wrap .i64 (zm + (1 : Int)))))) rfl rfl (wP rfl rfl ?_)))
        replace h := bsome h; obtain ⟨v160, h, hg160⟩ := h
        refine wl_split (t := 154) rfl (fun hc => ?_) (fun hc => ?_)
        · replace h := ct hc h
          refine wl_skip rfl rfl (wl_skip rfl rfl (wl_skip rfl rfl (wl_skip rfl rfl (wl_skip rfl rfl ?_))))
          obtain rfl := sI h
          have h := hg160; clear hg160
          refine wP (v := .bool true) rfl rfl (wP rfl rfl ?_)
          replace h := bsome h; obtain ⟨v167, h, hg167⟩ := h
          replace h := ct rfl h
          refine wl_skip rfl rfl (wl_skip rfl rfl (wl_skip rfl rfl (wl_skip rfl rfl (wl_skip rfl rfl ?_))))
          obtain rfl := sI h
          have h := hg167; clear hg167
          refine wP (v := .bool true) rfl rfl (wP rfl rfl ?_)
          replace h := bsome h; obtain ⟨v174, h, hg174⟩ := h
          replace h := ct rfl h
          refine wl_skip rfl rfl (wl_skip rfl rfl (wl_skip rfl rfl (wl_skip rfl rfl (wl_skip rfl rfl ?_))))
          obtain rfl := sI h
          have h := hg174; clear hg174
          refine wP (v := .bool true) rfl rfl (wl_nil (wx_then ?_))
          replace h := ct rfl h
          refine wc_cond_true rfl ?_
          refine wc_seq (wc_region (wP rfl rfl (wl_nil (wx_then (wc_ret (wx_then_ret (wx_block_ret (wx_then_ret ?_))))))))
          obtain rfl := Option.some.inj h
          have h := hl29; clear hl29; try dsimp only [orE_l, orE_r] at h
          refine wx_then_ret (wx_block_ret (wx_then_ret ?_))
          obtain rfl := sI h
          exact wx_pf tt_ok (.inl rfl) Tryd.results5 (Res.tmp rfl Res.nil) rfl
        replace h := cf hc h
        refine wl_run rfl (wP rfl rfl ?_)
        replace h := bsome h; obtain ⟨v156, x156, h⟩ := h
        refine wl_run rfl (wl_cq Tryd.call17 rfl rfl rfl (q_rd (k_rollback_Engine_T (p0 := za) (p0_4 := ze) (p0_5 := zj) zac zae zad zaf zag zah zaq zap x156) (pCons (sC hC) (pApp (sC hA') (pApp (sC hA') (pCons (sC hC) (pApp (sC hA') (pCons (sC hC) (pApp (sC hA') pNil))))))) (fun _ _ => trivial)) rfl (wl_run rfl (wP rfl rfl (wl_run rfl (wP (v := .int .u64 (IntKind.wrap .u64 zl)) rfl rfl (wl_run rfl (wP (v := .bool (v156 != (IntKind.wrap .u64 zl))) rfl rfl ?_)))))))
        obtain rfl := sI h
        have h := hg160; clear hg160
        refine wP (v := .bool (v156 != (IntKind.wrap .u64 zl))) rfl rfl (wP rfl rfl ?_)
        replace h := bsome h; obtain ⟨v167, h, hg167⟩ := h
        refine wl_split (t := 161) rfl (fun hc => ?_) (fun hc => ?_)
        · replace h := ct hc h
          refine wl_skip rfl rfl (wl_skip rfl rfl (wl_skip rfl rfl (wl_skip rfl rfl (wl_skip rfl rfl ?_))))
          obtain rfl := sI h
          have h := hg167; clear hg167
          refine wP (v := .bool true) rfl rfl (wP rfl rfl ?_)
          replace h := bsome h; obtain ⟨v174, h, hg174⟩ := h
          replace h := ct rfl h
          refine wl_skip rfl rfl (wl_skip rfl rfl (wl_skip rfl rfl (wl_skip rfl rfl (wl_skip rfl rfl ?_))))
          obtain rfl := sI h
          have h := hg174; clear hg174
          refine wP (v := .bool true) rfl rfl (wl_nil (wx_then ?_))
          replace h := ct rfl h
          refine wc_cond_true rfl ?_
          refine wc_seq (wc_region (wP rfl rfl (wl_nil (wx_then (wc_ret (wx_then_ret (wx_block_ret (wx_then_ret ?_))))))))
          obtain rfl := Option.some.inj h
          have h := hl29; clear hl29; try dsimp only [orE_l, orE_r] at h
          refine wx_then_ret (wx_block_ret (wx_then_ret ?_))
          obtain rfl := sI h
          exact wx_pf tt_ok (.inl rfl) Tryd.results5 (Res.tmp rfl Res.nil) rfl
        replace h := cf hc h
        refine wl_run rfl (wP rfl rfl ?_)
        replace h := bsome h; obtain ⟨v163, x163, h⟩ := h
        refine wl_run rfl (wl_cq Tryd.call19 rfl rfl rfl (q_rd (k_rollback_Engine_Known (p0 := za) (p0_4 := ze) (p0_5 := zj) zac zae zad zaf zag zah zaq zap x163) (pCons (sC hC) (pApp (sC hA') (pApp (sC hA') (pCons (sC hC) (pApp (sC hA') (pCons (sC hC) (pApp (sC hA') pNil))))))) (fun _ _ => trivial)) rfl (wl_run rfl (wP rfl rfl (wl_run rfl (wP (v := .int .u64 (IntKind.wrap .u64 zz)) rfl rfl (wl_run rfl (wP (v := .bool (v163 != (IntKind.wrap .u64 zz))) rfl rfl ?_)))))))
        obtain rfl := sI h
        have h := hg167; clear hg167
        refine wP (v := .bool (v163 != (IntKind.wrap .u64 zz))) rfl rfl (wP rfl rfl ?_)
        replace h := bsome h; obtain ⟨v174, h, hg174⟩ := h
        refine wl_split (t := 168) rfl (fun hc => ?_) (fun hc => ?_)
        · replace h := ct hc h
          refine wl_skip rfl rfl (wl_skip rfl rfl (wl_skip rfl rfl (wl_skip rfl rfl (wl_skip rfl rfl ?_))))
          obtain rfl := sI h
          have h := hg174; clear hg174
          refine wP (v := .bool true) rfl rfl (wl_nil (wx_then ?_))
          replace h := ct rfl h
          refine wc_cond_true rfl ?_
          refine wc_seq (wc_region (wP rfl rfl (wl_nil (wx_then (wc_ret (wx_then_ret (wx_block_ret (wx_then_ret ?_))))))))
          obtain rfl := Option.some.inj h
          have h := hl29; clear hl29; try dsimp only [orE_l, orE_r] at h
          refine wx_then_ret (wx_block_ret (wx_then_ret ?_))
          obtain rfl := sI h
          exact wx_pf tt_ok (.inl rfl) Tryd.results5 (Res.tmp rfl Res.nil) rfl
        replace h := cf hc h
        refine wl_run rfl (wP rfl rfl (wl_run rfl (wP rfl rfl (wl_run rfl (wP (v := .int .i64 (IntKind.wrap .i64 (zl - (IntKind.wrap .i64 (zm + (1 : Int)))))) rfl rfl (wl_run rfl (wP rfl rfl (wl_run rfl (wP (v := .bool (decide ((IntKind.wrap .i64 ((1 : Int) + (IntKind.wrap .i64 (Int.tmod p0.Window 12)))) < (IntKind.wrap .i64 (zl - (IntKind.wrap .i64 (zm + (1 : Int)))))))) rfl rfl ?_)))))))))
        obtain rfl := sI h
        have h := hg174; clear hg174
        refine wP (v := .bool (decide ((IntKind.wrap .i64 ((1 : Int) + (IntKind.wrap .i64 (Int.tmod p0.Window 12)))) < (IntKind.wrap .i64 (zl - (IntKind.wrap .i64 (zm + (1 : Int)))))))) rfl rfl (wl_nil (wx_then (wc_cond rfl (fun hc => ?_) (fun hc => ?_))))
        · replace h := ct hc h
          refine wc_seq (wc_region (wP rfl rfl (wl_nil (wx_then (wc_ret (wx_then_ret (wx_block_ret (wx_then_ret ?_))))))))
          obtain rfl := Option.some.inj h
          have h := hl29; clear hl29; try dsimp only [orE_l, orE_r] at h
          refine wx_then_ret (wx_block_ret (wx_then_ret ?_))
          obtain rfl := sI h
          exact wx_pf tt_ok (.inl rfl) Tryd.results5 (Res.tmp rfl Res.nil) rfl
        replace h := cf hc h
        refine wc_skip (wx_then (wc_seq (wc_k2 (Ls := (⟨b15, [.int .u8 zbz.1, .int .u8 zbz.2], 45, (0, 0)⟩ :: (⟨zv, (.int .u8 za.player :: .int .i64 za.window :: .int .u64 za.sure.Frame :: .int .u64 za.sure.Seed :: pl14 za.sure.Players [.slice zbm zbq zbo, .int .u16 za.sure.Score.1, .int .u16 za.sure.Score.2, .slice zbn zbr zbp, .pointer (some ⟨zav, 0, none⟩), .pointer (some ⟨zbw, 0, none⟩)]), 55, (0, 0)⟩ :: (zbk ++ (zbl ++ (⟨zav, [.int .u64 ze.first_, .slice zbt zbv zbu, .int .u8 ze.last], 94, (0, 0)⟩ :: (zbs ++ (⟨b2, [.int .u64 p0.Seed, .int .u8 p0.Player, .int .u8 p0.Window, .slice p0a0 p0n0 p0c0, .slice p0a1 p0n1 p0c1], 25, (0, 0)⟩ :: [])))))))) [5, 10, 11] [] [0, 1, 3, 7, 15, 31, 15, 15, 15, 15, 1023, 2047, 4095, 8191] [0, 1, 2, 3, 4, 6, 7, 8, 9, 5, 10, 11, 12, 13] (by kernel_rfl) (by kernel_rfl) (by kernel_rfl) ?_)))
        refine k_val rfl rfl rfl (pSub (pH (pH (pA (pA (pH (pA (pCons (sC (sA hC)) pNil)))))))) (stepV_ok tt_ok rfl) rfl ?_
        refine k_val (v := .int .i64 (Int.tmod (IntKind.wrap .i64 (IntKind.wrap .u8 (Int.tdiv v56 4))) 3)) rfl rfl rfl (pSub (pH (pH (pA (pA (pH (pA (pCons (sC (sA hC)) pNil)))))))) (stepV_ok tt_ok rfl) rfl ?_
        refine k_val (v := .bool ((Int.tmod (IntKind.wrap .i64 (IntKind.wrap .u8 (Int.tdiv v56 4))) 3) == (0 : Int))) rfl rfl rfl (pSub (pH (pH (pA (pA (pH (pA (pCons (sC (sA hC)) pNil)))))))) (stepV_ok tt_ok rfl) rfl ?_
        refine k_val rfl rfl rfl (pSub (pH (pH (pA (pA (pH (pA (pCons (sC (sA hC)) pNil)))))))) (stepV_ok tt_ok rfl) rfl ?_
        replace h := bsome h; obtain ⟨⟨v188, zbc, zbd⟩, h, hg188⟩ := h
        refine k_split (t := 178) rfl (fun hc => ?_) (fun hc => ?_)
        · replace h := ct hc h
          refine k_val rfl rfl rfl (pSub (pH (pH (pA (pA (pH (pA (pCons (sC (sA hC)) pNil)))))))) (stepV_ok tt_ok rfl) rfl ?_
          refine k_val (v := .agg #[.int .u64 p0.Seed, .int .u8 p0.Player, .int .u8 p0.Window, .slice p0a0 p0n0 p0c0, .slice p0a1 p0n1 p0c1]) rfl rfl rfl (pSub (pH (pH (pA (pA (pH (pA (pCons (sC (sA hC)) pNil)))))))) (val_load tt_ok rfl (mT (mT (mR (mR (mT (mR (mH))))))) rfl) rfl ?_
          refine k_val rfl rfl rfl (pSub (pH (pH (pA (pA (pH (pA (pCons (sC (sA hC)) pNil)))))))) (stepV_ok tt_ok rfl) rfl ?_
          refine k_val rfl rfl rfl (pSub (pH (pH (pA (pA (pH (pA (pCons (sC (sA hC)) pNil)))))))) (stepV_ok tt_ok rfl) rfl ?_
          refine k_val rfl rfl rfl (pSub (pH (pH (pA (pA (pH (pA (pCons (sC (sA hC)) pNil)))))))) (stepV_ok tt_ok rfl) rfl ?_
          replace h := bsome h; obtain ⟨⟨zi, v180⟩, x180, h⟩ := h; try dsimp only at h
          refine k_cs rfl rfl rfl Tryd.call11 rfl rfl rfl (s_sp (k_rollback_Engine_Shown (p0 := za) (p0_4 := ze) (p0_5 := zj) zac zae zad zaf zag zah zaq zap x180) (pCons (sC hC) (pApp (sC hA') (pApp (sC hA') (pCons (sC hC) (pApp (sC hA') (pCons (sC hC) (pApp (sC hA') pNil))))))) (fun w hI => ⟨(Rds.call G0S (pCons (sC hC) (pApp (sC hA') (pApp (sC hA') (pCons (sC hC) (pApp (sC hA') (pCons (sC hC) (pApp (sC hA') pNil))))))) rsub_nil) w hI, (Rds.call G1S (pCons (sC hC) (pApp (sC hA') (pApp (sC hA') (pCons (sC hC) (pApp (sC hA') (pCons (sC hC) (pApp (sC hA') pNil))))))) rsub_nil) w hI⟩)) rfl (.inr (by rintro _ _ ⟨_, ⟨_, _, _, _, _, _, _, _, _, _, rfl, rfl⟩, rfl⟩; exact ⟨_, (pCons (sC (sA (sA (sC (sA (sC (sA (sA hC)))))))) (pH (pA (pA (pH (pA (pCons (sC (sA (sA hC))) pNil)))))))⟩)) ?_
          rintro _ _ ⟨_, ⟨zbb, zba, v180a0, v180n0, v180c0, v180B0, zaz, zay, v180N0, v180V0, rfl, rfl⟩, rfl⟩
          replace h := bsome h; obtain ⟨v185, x185, h⟩ := h
          refine k_cs rfl rfl rfl Tryd.call22 rfl rfl rfl (s_sp (k_hindcastlaw26_Game_shown (p0 := p0) p0N0 p0H0 p0N1 p0H1 x185) pNil (fun w hI => ⟨(Rds.call p0S0 pNil rsub_nil) w hI, (Rds.call p0S1 pNil rsub_nil) w hI, (Rds.call G0S pNil rsub_nil) w hI, (Rds.call G1S pNil rsub_nil) w hI⟩)) rfl (.inr (by rintro _ _ ⟨_, ⟨_, _, _, _, _, _, rfl, rfl⟩, rfl⟩; exact ⟨_, (pCons (sA (sC (sA (sA (sC (sA (sC (sA (sA hC))))))))) (pCons (sA hC) (pApp (sA hA') (pApp (sA hA') (pCons (sA hC) (pApp (sA hA') (pCons (sA (sC (sA (sA hC)))) pNil)))))))⟩)) ?_
          rintro _ _ ⟨_, ⟨v185a0, v185n0, v185c0, v185B0, v185N0, v185V0, rfl, rfl⟩, rfl⟩
          replace h := bsome h; obtain ⟨v186, x186, h⟩ := h
          refine k_cq rfl rfl rfl Tryd.call14 rfl rfl rfl (q_pf (k_state_Same (p0 := v180) (p1 := v185) v180N0 (vec_cap v180V0) v185N0 (vec_cap v185V0) x186) (fun w hI => ⟨(Rds.call (Rds.of_vec v180V0) pNil ⟨_, (sA (sC (sA (sA (sC (sA (sC (sA hA'))))))))⟩) w hI, (Rds.call (Rds.of_vec v185V0) pNil ⟨_, hA'⟩) w hI⟩)) rfl (pSub (pCons (sA (sC (sA (sA (sC (sA (sC (sA (sA hC))))))))) (pCons (sA hC) (pApp (sA hA') (pApp (sA hA') (pCons (sA hC) (pApp (sA hA') (pCons (sA (sC (sA (sA hC)))) pNil)))))))) ?_
          refine k_val (v := .bool (!v186)) rfl rfl rfl (pSub (pCons (sA (sC (sA (sA (sC (sA (sC (sA (sA hC))))))))) (pCons (sA hC) (pApp (sA hA') (pApp (sA hA') (pCons (sA hC) (pApp (sA hA') (pCons (sA (sC (sA (sA hC)))) pNil)))))))) (stepV_ok tt_ok rfl) rfl ?_
          simp only [Option.some.injEq, Prod.mk.injEq] at h
          obtain ⟨rfl, rfl, rfl⟩ := h
          have h := hg188; clear hg188; try dsimp only at h
          refine k_val (v := .bool (!v186)) rfl rfl rfl (pSub (pCons (sA (sC (sA (sA (sC (sA (sC (sA (sA hC))))))))) (pCons (sA hC) (pApp (sA hA') (pApp (sA hA') (pCons (sA hC) (pApp (sA hA') (pCons (sA (sC (sA (sA hC)))) pNil)))))))) (stepV_ok tt_ok rfl) rfl ?_
          refine k_end (by kernel_rfl) ?_
          refine wx_then (wc_cond rfl (fun hc => ?_) (fun hc => ?_))
          · replace h := ct hc h
            refine wc_seq (wc_region (wP rfl rfl (wl_nil (wx_then (wc_ret (wx_block_ret (wx_then_ret ?_)))))))
            obtain rfl := Option.some.inj h
            have h := hl29; clear hl29; try dsimp only [orE_l, orE_r] at h
            refine wx_then_ret (wx_block_ret (wx_then_ret ?_))
            obtain rfl := sI h
            exact wx_pf tt_ok (.inl rfl) Tryd.results5 (Res.tmp rfl Res.nil) rfl
          replace h := cf hc h
          refine wc_skip (wx_block (wx_then (wc_region (wP rfl rfl (wP (v := .int .i64 (IntKind.wrap .i64 (zy + (1 : Int)))) rfl rfl (wP rfl rfl (wl_nil ?_)))))))
          exact wx_round m29 (Nat.lt_succ_self m29) ⟨(IntKind.wrap .i64 (zm + (1 : Int))), zl, zz, (IntKind.wrap .i64 (zy + (1 : Int))), za.player, za.window, za.sure.Frame, za.sure.Seed, za.sure.Players, za.sure.Shots, za.sure.Score, za.own, ze.first_, ze.l, ze.last, zi.size, zi.places, zbm, zbq, zbo, zbk, zbn, zbr, zbp, zbl, zbt, zbv, zbu, zbs, zbb, zba, h, zac, zae, zad, zaf, zag, zah, zaz, zay, rfl, rfl⟩ (agree_cons rfl (agree_cons rfl (agree_cons rfl (agree_cons rfl (agree_cons rfl (agree_cons rfl (agree_cons rfl (agree_cons rfl (agree_cons rfl agree_nil))))))))) (pSub (pCons (sA (sC (sA (sA (sC (sA (sC (sA (sA (sC hC)))))))))) (pCons (sA hC) (pCons (sA (sA (sA hC))) (pCons (sA (sA (sA (sA hC)))) (pApp (sA hA') (pApp (sA hA') (pApp (sA hA') (pApp (sA hA') pNil)))))))))
        replace h := cf hc h
        refine k_skip rfl rfl (pSub (pH (pH (pA (pA (pH (pA (pCons (sC (sA hC)) pNil)))))))) rfl ?_
        refine k_skip rfl rfl (pSub (pH (pH (pA (pA (pH (pA (pCons (sC (sA hC)) pNil)))))))) rfl ?_
        refine k_skip rfl rfl (pSub (pH (pH (pA (pA (pH (pA (pCons (sC (sA hC)) pNil)))))))) rfl ?_
        refine k_skip rfl rfl (pSub (pH (pH (pA (pA (pH (pA (pCons (sC (sA hC)) pNil)))))))) rfl ?_
        refine k_skip rfl rfl (pSub (pH (pH (pA (pA (pH (pA (pCons (sC (sA hC)) pNil)))))))) rfl ?_
        refine k_skip rfl rfl (pSub (pH (pH (pA (pA (pH (pA (pCons (sC (sA hC)) pNil)))))))) rfl ?_
        refine k_skip rfl rfl (pSub (pH (pH (pA (pA (pH (pA (pCons (sC (sA hC)) pNil)))))))) rfl ?_
        refine k_skip rfl rfl (pSub (pH (pH (pA (pA (pH (pA (pCons (sC (sA hC)) pNil)))))))) rfl ?_
        refine k_skip rfl rfl (pSub (pH (pH (pA (pA (pH (pA (pCons (sC (sA hC)) pNil)))))))) rfl ?_
        simp only [Option.some.injEq, Prod.mk.injEq] at h
        obtain ⟨rfl, rfl, rfl⟩ := h
        have h := hg188; clear hg188; try dsimp only at h
        refine k_val (v := .bool false) rfl rfl rfl (pSub (pH (pH (pA (pA (pH (pA (pCons (sC (sA hC)) pNil)))))))) (stepV_ok tt_ok rfl) rfl ?_
        refine k_end (by kernel_rfl) ?_
        refine wx_then ?_
        replace h := cf rfl h
        refine wc_cond_false rfl ?_
        refine wc_skip (wx_block (wx_then (wc_region (wP rfl rfl (wP (v := .int .i64 (IntKind.wrap .i64 (zy + (1 : Int)))) rfl rfl (wP rfl rfl (wl_nil ?_)))))))
        exact wx_round m29 (Nat.lt_succ_self m29) ⟨(IntKind.wrap .i64 (zm + (1 : Int))), zl, zz, (IntKind.wrap .i64 (zy + (1 : Int))), za.player, za.window, za.sure.Frame, za.sure.Seed, za.sure.Players, za.sure.Shots, za.sure.Score, za.own, ze.first_, ze.l, ze.last, zj.size, zj.places, zbm, zbq, zbo, zbk, zbn, zbr, zbp, zbl, zbt, zbv, zbu, zbs, zcm, zcl, h, zac, zae, zad, zaf, zag, zah, zaq, zap, rfl, rfl⟩ (agree_cons rfl (agree_cons rfl (agree_cons rfl (agree_cons rfl (agree_cons rfl (agree_cons rfl (agree_cons rfl (agree_cons rfl (agree_cons rfl agree_nil))))))))) (pSub (pCons (sC (sC (sA (sA (sC (sA (sC (sA hC)))))))) (pCons (sC hC) (pCons (sC (sA (sA hC))) (pCons (sC (sA (sA (sA hC)))) (pApp (sC hA') (pApp (sC hA') (pApp (sC hA') (pApp (sC hA') pNil)))))))))
      replace h := cf hc h
      refine wc_skip (wx_block (wx_then (wc_seq (wc_seq (wc_region (wP rfl rfl ?_))))))
      replace h := bsome h; obtain ⟨v150, x150, h⟩ := h
      refine wl_cq Tryd.call16 rfl rfl rfl (q_rd (k_rollback_Engine_C (p0 := za) (p0_4 := ze) (p0_5 := zj) zac zae zad zaf zag zah zaq zap x150) (pCons (sC hC) (pApp (sC hA') (pApp (sC hA') (pCons (sC hC) (pApp (sC hA') (pCons (sC hC) (pApp (sC hA') pNil))))))) (fun _ _ => trivial)) rfl ?_
      refine wP rfl rfl (wP (v := .int .u64 (IntKind.wrap .u64 zm)) rfl rfl (wP (v := .bool (v150 != (IntKind.wrap .u64 zm))) rfl rfl (wP rfl rfl ?_)))
      replace h := bsome h; obtain ⟨v160, h, hg160⟩ := h
      refine wl_split (t := 154) rfl (fun hc => ?_) (fun hc => ?_)
      · replace h := ct hc h
        refine wl_skip rfl rfl (wl_skip rfl rfl (wl_skip rfl rfl (wl_skip rfl rfl (wl_skip rfl rfl ?_))))
        obtain rfl := sI h
        have h := hg160; clear hg160
        refine wP (v := .bool true) rfl rfl (wP rfl rfl ?_)
        replace h := bsome h; obtain ⟨v167, h, hg167⟩ := h
        replace h := ct rfl h
        refine wl_skip rfl rfl (wl_skip rfl rfl (wl_skip rfl rfl (wl_skip rfl rfl (wl_skip rfl rfl ?_))))
        obtain rfl := sI h
        have h := hg167; clear hg167
        refine wP (v := .bool true) rfl rfl (wP rfl rfl ?_)
        replace h := bsome h; obtain ⟨v174, h, hg174⟩ := h
        replace h := ct rfl h
        refine wl_skip rfl rfl (wl_skip rfl rfl (wl_skip rfl rfl (wl_skip rfl rfl (wl_skip rfl rfl ?_))))
        obtain rfl := sI h
        have h := hg174; clear hg174
        refine wP (v := .bool true) rfl rfl (wl_nil (wx_then ?_))
        replace h := ct rfl h
        refine wc_cond_true rfl ?_
        refine wc_seq (wc_region (wP rfl rfl (wl_nil (wx_then (wc_ret (wx_then_ret (wx_block_ret (wx_then_ret ?_))))))))
        obtain rfl := Option.some.inj h
        have h := hl29; clear hl29; try dsimp only [orE_l, orE_r] at h
        refine wx_then_ret (wx_block_ret (wx_then_ret ?_))
        obtain rfl := sI h
        exact wx_pf tt_ok (.inl rfl) Tryd.results5 (Res.tmp rfl Res.nil) rfl
      replace h := cf hc h
      refine wl_run rfl (wP rfl rfl ?_)
      replace h := bsome h; obtain ⟨v156, x156, h⟩ := h
      refine wl_run rfl (wl_cq Tryd.call17 rfl rfl rfl (q_rd (k_rollback_Engine_T (p0 := za) (p0_4 := ze) (p0_5 := zj) zac zae zad zaf zag zah zaq zap x156) (pCons (sC hC) (pApp (sC hA') (pApp (sC hA') (pCons (sC hC) (pApp (sC hA') (pCons (sC hC) (pApp (sC hA') pNil))))))) (fun _ _ => trivial)) rfl (wl_run rfl (wP rfl rfl (wl_run rfl (wP (v := .int .u64 (IntKind.wrap .u64 zl)) rfl rfl (wl_run rfl (wP (v := .bool (v156 != (IntKind.wrap .u64 zl))) rfl rfl ?_)))))))
      obtain rfl := sI h
      have h := hg160; clear hg160
      refine wP (v := .bool (v156 != (IntKind.wrap .u64 zl))) rfl rfl (wP rfl rfl ?_)
      replace h := bsome h; obtain ⟨v167, h, hg167⟩ := h
      refine wl_split (t := 161) rfl (fun hc => ?_) (fun hc => ?_)
      · replace h := ct hc h
        refine wl_skip rfl rfl (wl_skip rfl rfl (wl_skip rfl rfl (wl_skip rfl rfl (wl_skip rfl rfl ?_))))
        obtain rfl := sI h
        have h := hg167; clear hg167
        refine wP (v := .bool true) rfl rfl (wP rfl rfl ?_)
        replace h := bsome h; obtain ⟨v174, h, hg174⟩ := h
        replace h := ct rfl h
        refine wl_skip rfl rfl (wl_skip rfl rfl (wl_skip rfl rfl (wl_skip rfl rfl (wl_skip rfl rfl ?_))))
        obtain rfl := sI h
        have h := hg174; clear hg174
        refine wP (v := .bool true) rfl rfl (wl_nil (wx_then ?_))
        replace h := ct rfl h
        refine wc_cond_true rfl ?_
        refine wc_seq (wc_region (wP rfl rfl (wl_nil (wx_then (wc_ret (wx_then_ret (wx_block_ret (wx_then_ret ?_))))))))
        obtain rfl := Option.some.inj h
        have h := hl29; clear hl29; try dsimp only [orE_l, orE_r] at h
        refine wx_then_ret (wx_block_ret (wx_then_ret ?_))
        obtain rfl := sI h
        exact wx_pf tt_ok (.inl rfl) Tryd.results5 (Res.tmp rfl Res.nil) rfl
      replace h := cf hc h
      refine wl_run rfl (wP rfl rfl ?_)
      replace h := bsome h; obtain ⟨v163, x163, h⟩ := h
      refine wl_run rfl (wl_cq Tryd.call19 rfl rfl rfl (q_rd (k_rollback_Engine_Known (p0 := za) (p0_4 := ze) (p0_5 := zj) zac zae zad zaf zag zah zaq zap x163) (pCons (sC hC) (pApp (sC hA') (pApp (sC hA') (pCons (sC hC) (pApp (sC hA') (pCons (sC hC) (pApp (sC hA') pNil))))))) (fun _ _ => trivial)) rfl (wl_run rfl (wP rfl rfl (wl_run rfl (wP (v := .int .u64 (IntKind.wrap .u64 zz)) rfl rfl (wl_run rfl (wP (v := .bool (v163 != (IntKind.wrap .u64 zz))) rfl rfl ?_)))))))
      obtain rfl := sI h
      have h := hg167; clear hg167
      refine wP (v := .bool (v163 != (IntKind.wrap .u64 zz))) rfl rfl (wP rfl rfl ?_)
      replace h := bsome h; obtain ⟨v174, h, hg174⟩ := h
      refine wl_split (t := 168) rfl (fun hc => ?_) (fun hc => ?_)
      · replace h := ct hc h
        refine wl_skip rfl rfl (wl_skip rfl rfl (wl_skip rfl rfl (wl_skip rfl rfl (wl_skip rfl rfl ?_))))
        obtain rfl := sI h
        have h := hg174; clear hg174
        refine wP (v := .bool true) rfl rfl (wl_nil (wx_then ?_))
        replace h := ct rfl h
        refine wc_cond_true rfl ?_
        refine wc_seq (wc_region (wP rfl rfl (wl_nil (wx_then (wc_ret (wx_then_ret (wx_block_ret (wx_then_ret ?_))))))))
        obtain rfl := Option.some.inj h
        have h := hl29; clear hl29; try dsimp only [orE_l, orE_r] at h
        refine wx_then_ret (wx_block_ret (wx_then_ret ?_))
        obtain rfl := sI h
        exact wx_pf tt_ok (.inl rfl) Tryd.results5 (Res.tmp rfl Res.nil) rfl
      replace h := cf hc h
      refine wl_run rfl (wP rfl rfl (wl_run rfl (wP rfl rfl (wl_run rfl (wP (v := .int .i64 (IntKind.wrap .i64 (zl - zm))) rfl rfl (wl_run rfl (wP rfl rfl (wl_run rfl (wP (v := .bool (decide ((IntKind.wrap .i64 ((1 : Int) + (IntKind.wrap .i64 (Int.tmod p0.Window 12)))) < (IntKind.wrap .i64 (zl - zm))))) rfl rfl ?_)))))))))
      obtain rfl := sI h
      have h := hg174; clear hg174
      refine wP (v := .bool (decide ((IntKind.wrap .i64 ((1 : Int) + (IntKind.wrap .i64 (Int.tmod p0.Window 12)))) < (IntKind.wrap .i64 (zl - zm))))) rfl rfl (wl_nil (wx_then (wc_cond rfl (fun hc => ?_) (fun hc => ?_))))
      · replace h := ct hc h
        refine wc_seq (wc_region (wP rfl rfl (wl_nil (wx_then (wc_ret (wx_then_ret (wx_block_ret (wx_then_ret ?_))))))))
        obtain rfl := Option.some.inj h
        have h := hl29; clear hl29; try dsimp only [orE_l, orE_r] at h
        refine wx_then_ret (wx_block_ret (wx_then_ret ?_))
        obtain rfl := sI h
        exact wx_pf tt_ok (.inl rfl) Tryd.results5 (Res.tmp rfl Res.nil) rfl
      replace h := cf hc h
      refine wc_skip (wx_then (wc_seq (wc_k2 (Ls := (⟨b15, [.int .u8 zbz.1, .int .u8 zbz.2], 45, (0, 0)⟩ :: (⟨zv, (.int .u8 za.player :: .int .i64 za.window :: .int .u64 za.sure.Frame :: .int .u64 za.sure.Seed :: pl14 za.sure.Players [.slice zbm zbq zbo, .int .u16 za.sure.Score.1, .int .u16 za.sure.Score.2, .slice zbn zbr zbp, .pointer (some ⟨zav, 0, none⟩), .pointer (some ⟨zbw, 0, none⟩)]), 55, (0, 0)⟩ :: (zbk ++ (zbl ++ (⟨zav, [.int .u64 ze.first_, .slice zbt zbv zbu, .int .u8 ze.last], 94, (0, 0)⟩ :: (zbs ++ (⟨b2, [.int .u64 p0.Seed, .int .u8 p0.Player, .int .u8 p0.Window, .slice p0a0 p0n0 p0c0, .slice p0a1 p0n1 p0c1], 25, (0, 0)⟩ :: [])))))))) [5, 10, 11] [] [0, 1, 3, 7, 15, 31, 15, 15, 15, 15, 1023, 2047, 4095, 8191] [0, 1, 2, 3, 4, 6, 7, 8, 9, 5, 10, 11, 12, 13] (by kernel_rfl) (by kernel_rfl) (by kernel_rfl) ?_)))
      refine k_val rfl rfl rfl (pSub (pH (pH (pA (pA (pH (pA (pCons (sC (sA hC)) pNil)))))))) (stepV_ok tt_ok rfl) rfl ?_
      refine k_val (v := .int .i64 (Int.tmod (IntKind.wrap .i64 (IntKind.wrap .u8 (Int.tdiv v56 4))) 3)) rfl rfl rfl (pSub (pH (pH (pA (pA (pH (pA (pCons (sC (sA hC)) pNil)))))))) (stepV_ok tt_ok rfl) rfl ?_
      refine k_val (v := .bool ((Int.tmod (IntKind.wrap .i64 (IntKind.wrap .u8 (Int.tdiv v56 4))) 3) == (0 : Int))) rfl rfl rfl (pSub (pH (pH (pA (pA (pH (pA (pCons (sC (sA hC)) pNil)))))))) (stepV_ok tt_ok rfl) rfl ?_
      refine k_val rfl rfl rfl (pSub (pH (pH (pA (pA (pH (pA (pCons (sC (sA hC)) pNil)))))))) (stepV_ok tt_ok rfl) rfl ?_
      replace h := bsome h; obtain ⟨⟨v188, zbc, zbd⟩, h, hg188⟩ := h
      refine k_split (t := 178) rfl (fun hc => ?_) (fun hc => ?_)
      · replace h := ct hc h
        refine k_val rfl rfl rfl (pSub (pH (pH (pA (pA (pH (pA (pCons (sC (sA hC)) pNil)))))))) (stepV_ok tt_ok rfl) rfl ?_
        refine k_val (v := .agg #[.int .u64 p0.Seed, .int .u8 p0.Player, .int .u8 p0.Window, .slice p0a0 p0n0 p0c0, .slice p0a1 p0n1 p0c1]) rfl rfl rfl (pSub (pH (pH (pA (pA (pH (pA (pCons (sC (sA hC)) pNil)))))))) (val_load tt_ok rfl (mT (mT (mR (mR (mT (mR (mH))))))) rfl) rfl ?_
        refine k_val rfl rfl rfl (pSub (pH (pH (pA (pA (pH (pA (pCons (sC (sA hC)) pNil)))))))) (stepV_ok tt_ok rfl) rfl ?_
        refine k_val rfl rfl rfl (pSub (pH (pH (pA (pA (pH (pA (pCons (sC (sA hC)) pNil)))))))) (stepV_ok tt_ok rfl) rfl ?_
        refine k_val rfl rfl rfl (pSub (pH (pH (pA (pA (pH (pA (pCons (sC (sA hC)) pNil)))))))) (stepV_ok tt_ok rfl) rfl ?_
        replace h := bsome h; obtain ⟨⟨zi, v180⟩, x180, h⟩ := h; try dsimp only at h
        refine k_cs rfl rfl rfl Tryd.call11 rfl rfl rfl (s_sp (k_rollback_Engine_Shown (p0 := za) (p0_4 := ze) (p0_5 := zj) zac zae zad zaf zag zah zaq zap x180) (pCons (sC hC) (pApp (sC hA') (pApp (sC hA') (pCons (sC hC) (pApp (sC hA') (pCons (sC hC) (pApp (sC hA') pNil))))))) (fun w hI => ⟨(Rds.call G0S (pCons (sC hC) (pApp (sC hA') (pApp (sC hA') (pCons (sC hC) (pApp (sC hA') (pCons (sC hC) (pApp (sC hA') pNil))))))) rsub_nil) w hI, (Rds.call G1S (pCons (sC hC) (pApp (sC hA') (pApp (sC hA') (pCons (sC hC) (pApp (sC hA') (pCons (sC hC) (pApp (sC hA') pNil))))))) rsub_nil) w hI⟩)) rfl (.inr (by rintro _ _ ⟨_, ⟨_, _, _, _, _, _, _, _, _, _, rfl, rfl⟩, rfl⟩; exact ⟨_, (pCons (sC (sA (sA (sC (sA (sC (sA (sA hC)))))))) (pH (pA (pA (pH (pA (pCons (sC (sA (sA hC))) pNil)))))))⟩)) ?_
        rintro _ _ ⟨_, ⟨zbb, zba, v180a0, v180n0, v180c0, v180B0, zaz, zay, v180N0, v180V0, rfl, rfl⟩, rfl⟩
        replace h := bsome h; obtain ⟨v185, x185, h⟩ := h
        refine k_cs rfl rfl rfl Tryd.call22 rfl rfl rfl (s_sp (k_hindcastlaw26_Game_shown (p0 := p0) p0N0 p0H0 p0N1 p0H1 x185) pNil (fun w hI => ⟨(Rds.call p0S0 pNil rsub_nil) w hI, (Rds.call p0S1 pNil rsub_nil) w hI, (Rds.call G0S pNil rsub_nil) w hI, (Rds.call G1S pNil rsub_nil) w hI⟩)) rfl (.inr (by rintro _ _ ⟨_, ⟨_, _, _, _, _, _, rfl, rfl⟩, rfl⟩; exact ⟨_, (pCons (sA (sC (sA (sA (sC (sA (sC (sA (sA hC))))))))) (pCons (sA hC) (pApp (sA hA') (pApp (sA hA') (pCons (sA hC) (pApp (sA hA') (pCons (sA (sC (sA (sA hC)))) pNil)))))))⟩)) ?_
        rintro _ _ ⟨_, ⟨v185a0, v185n0, v185c0, v185B0, v185N0, v185V0, rfl, rfl⟩, rfl⟩
        replace h := bsome h; obtain ⟨v186, x186, h⟩ := h
        refine k_cq rfl rfl rfl Tryd.call14 rfl rfl rfl (q_pf (k_state_Same (p0 := v180) (p1 := v185) v180N0 (vec_cap v180V0) v185N0 (vec_cap v185V0) x186) (fun w hI => ⟨(Rds.call (Rds.of_vec v180V0) pNil ⟨_, (sA (sC (sA (sA (sC (sA (sC (sA hA'))))))))⟩) w hI, (Rds.call (Rds.of_vec v185V0) pNil ⟨_, hA'⟩) w hI⟩)) rfl (pSub (pCons (sA (sC (sA (sA (sC (sA (sC (sA (sA hC))))))))) (pCons (sA hC) (pApp (sA hA') (pApp (sA hA') (pCons (sA hC) (pApp (sA hA') (pCons (sA (sC (sA (sA hC)))) pNil)))))))) ?_
        refine k_val (v := .bool (!v186)) rfl rfl rfl (pSub (pCons (sA (sC (sA (sA (sC (sA (sC (sA (sA hC))))))))) (pCons (sA hC) (pApp (sA hA') (pApp (sA hA') (pCons (sA hC) (pApp (sA hA') (pCons (sA (sC (sA (sA hC)))) pNil)))))))) (stepV_ok tt_ok rfl) rfl ?_
        simp only [Option.some.injEq, Prod.mk.injEq] at h
        obtain ⟨rfl, rfl, rfl⟩ := h
        have h := hg188; clear hg188; try dsimp only at h
        refine k_val (v := .bool (!v186)) rfl rfl rfl (pSub (pCons (sA (sC (sA (sA (sC (sA (sC (sA (sA hC))))))))) (pCons (sA hC) (pApp (sA hA') (pApp (sA hA') (pCons (sA hC) (pApp (sA hA') (pCons (sA (sC (sA (sA hC)))) pNil)))))))) (stepV_ok tt_ok rfl) rfl ?_
        refine k_end (by kernel_rfl) ?_
        refine wx_then (wc_cond rfl (fun hc => ?_) (fun hc => ?_))
        · replace h := ct hc h
          refine wc_seq (wc_region (wP rfl rfl (wl_nil (wx_then (wc_ret (wx_block_ret (wx_then_ret ?_)))))))
          obtain rfl := Option.some.inj h
          have h := hl29; clear hl29; try dsimp only [orE_l, orE_r] at h
          refine wx_then_ret (wx_block_ret (wx_then_ret ?_))
          obtain rfl := sI h
          exact wx_pf tt_ok (.inl rfl) Tryd.results5 (Res.tmp rfl Res.nil) rfl
        replace h := cf hc h
        refine wc_skip (wx_block (wx_then (wc_region (wP rfl rfl (wP (v := .int .i64 (IntKind.wrap .i64 (zy + (1 : Int)))) rfl rfl (wP rfl rfl (wl_nil ?_)))))))
        exact wx_round m29 (Nat.lt_succ_self m29) ⟨zm, zl, zz, (IntKind.wrap .i64 (zy + (1 : Int))), za.player, za.window, za.sure.Frame, za.sure.Seed, za.sure.Players, za.sure.Shots, za.sure.Score, za.own, ze.first_, ze.l, ze.last, zi.size, zi.places, zbm, zbq, zbo, zbk, zbn, zbr, zbp, zbl, zbt, zbv, zbu, zbs, zbb, zba, h, zac, zae, zad, zaf, zag, zah, zaz, zay, rfl, rfl⟩ (agree_cons rfl (agree_cons rfl (agree_cons rfl (agree_cons rfl (agree_cons rfl (agree_cons rfl (agree_cons rfl (agree_cons rfl (agree_cons rfl agree_nil))))))))) (pSub (pCons (sA (sC (sA (sA (sC (sA (sC (sA (sA (sC hC)))))))))) (pCons (sA hC) (pCons (sA (sA (sA hC))) (pCons (sA (sA (sA (sA hC)))) (pApp (sA hA') (pApp (sA hA') (pApp (sA hA') (pApp (sA hA') pNil)))))))))
      replace h := cf hc h
      refine k_skip rfl rfl (pSub (pH (pH (pA (pA (pH (pA (pCons (sC (sA hC)) pNil)))))))) rfl ?_
      refine k_skip rfl rfl (pSub (pH (pH (pA (pA (pH (pA (pCons (sC (sA hC)) pNil)))))))) rfl ?_
      refine k_skip rfl rfl (pSub (pH (pH (pA (pA (pH (pA (pCons (sC (sA hC)) pNil)))))))) rfl ?_
      refine k_skip rfl rfl (pSub (pH (pH (pA (pA (pH (pA (pCons (sC (sA hC)) pNil)))))))) rfl ?_
      refine k_skip rfl rfl (pSub (pH (pH (pA (pA (pH (pA (pCons (sC (sA hC)) pNil)))))))) rfl ?_
      refine k_skip rfl rfl (pSub (pH (pH (pA (pA (pH (pA (pCons (sC (sA hC)) pNil)))))))) rfl ?_
      refine k_skip rfl rfl (pSub (pH (pH (pA (pA (pH (pA (pCons (sC (sA hC)) pNil)))))))) rfl ?_
      refine k_skip rfl rfl (pSub (pH (pH (pA (pA (pH (pA (pCons (sC (sA hC)) pNil)))))))) rfl ?_
      refine k_skip rfl rfl (pSub (pH (pH (pA (pA (pH (pA (pCons (sC (sA hC)) pNil)))))))) rfl ?_
      simp only [Option.some.injEq, Prod.mk.injEq] at h
      obtain ⟨rfl, rfl, rfl⟩ := h
      have h := hg188; clear hg188; try dsimp only at h
      refine k_val (v := .bool false) rfl rfl rfl (pSub (pH (pH (pA (pA (pH (pA (pCons (sC (sA hC)) pNil)))))))) (stepV_ok tt_ok rfl) rfl ?_
      refine k_end (by kernel_rfl) ?_
      refine wx_then ?_
      replace h := cf rfl h
      refine wc_cond_false rfl ?_
      refine wc_skip (wx_block (wx_then (wc_region (wP rfl rfl (wP (v := .int .i64 (IntKind.wrap .i64 (zy + (1 : Int)))) rfl rfl (wP rfl rfl (wl_nil ?_)))))))
      exact wx_round m29 (Nat.lt_succ_self m29) ⟨zm, zl, zz, (IntKind.wrap .i64 (zy + (1 : Int))), za.player, za.window, za.sure.Frame, za.sure.Seed, za.sure.Players, za.sure.Shots, za.sure.Score, za.own, ze.first_, ze.l, ze.last, zj.size, zj.places, zbm, zbq, zbo, zbk, zbn, zbr, zbp, zbl, zbt, zbv, zbu, zbs, zcm, zcl, h, zac, zae, zad, zaf, zag, zah, zaq, zap, rfl, rfl⟩ (agree_cons rfl (agree_cons rfl (agree_cons rfl (agree_cons rfl (agree_cons rfl (agree_cons rfl (agree_cons rfl (agree_cons rfl (agree_cons rfl agree_nil))))))))) (pSub (pCons (sC (sC (sA (sA (sC (sA (sC (sA hC)))))))) (pCons (sC hC) (pCons (sC (sA (sA hC))) (pCons (sC (sA (sA (sA hC)))) (pApp (sC hA') (pApp (sC hA') (pApp (sC hA') (pApp (sC hA') pNil)))))))))
    replace h := cf hc h
    refine wq_skip rfl rfl (wq_skip rfl rfl (wq_skip rfl rfl (wq_skip rfl rfl (wq_skip rfl rfl ?_))))
    obtain rfl := sI h
    have h := hg91; clear hg91
    refine wq_run rfl (qP (v := .bool false) rfl rfl ?_)
    obtain rfl := sI h
    have h := hg92; clear hg92
    refine qP (v := .bool false) rfl rfl (wq_nil (wx_then ?_))
    replace h := cf rfl h
    refine wc_cond_false rfl ?_
    refine wc_skip (wx_then (wc_seq (wc_region (wP rfl rfl (wl_nil (wx_then (wc_cond rfl (fun hc => ?_) (fun hc => ?_))))))))
    · replace h := ct hc h
      refine wc_region (wP rfl rfl (wP (v := .int .i64 (IntKind.wrap .i64 (zm + (1 : Int)))) rfl rfl (wP rfl rfl (wl_nil (wx_block (wx_then (wc_seq (wc_seq (wc_region (wP rfl rfl ?_))))))))))
      replace h := bsome h; obtain ⟨v150, x150, h⟩ := h
      refine wl_cq Tryd.call16 rfl rfl rfl (q_rd (k_rollback_Engine_C (p0 := za) (p0_4 := ze) (p0_5 := zj) zac zae zad zaf zag zah zaq zap x150) (pCons (sC hC) (pApp (sC hA') (pApp (sC hA') (pCons (sC hC) (pApp (sC hA') (pCons (sC hC) (pApp (sC hA') pNil))))))) (fun _ _ => trivial)) rfl ?_
      refine wP rfl rfl (wP (v := .int .u64 (IntKind.wrap .u64 (IntKind.wrap .i64 (zm + (1 : Int))))) rfl rfl (wP (v := .bool (v150 != (IntKind.wrap .u64 (IntKind.wrap .i64 (zm + (1 : Int)))))) rfl rfl (wP rfl rfl ?_)))
      replace h := bsome h; obtain ⟨v160, h, hg160⟩ := h
      refine wl_split (t := 154) rfl (fun hc => ?_) (fun hc => ?_)
      · replace h := ct hc h
        refine wl_skip rfl rfl (wl_skip rfl rfl (wl_skip rfl rfl (wl_skip rfl rfl (wl_skip rfl rfl ?_))))
        obtain rfl := sI h
        have h := hg160; clear hg160
        refine wP (v := .bool true) rfl rfl (wP rfl rfl ?_)
        replace h := bsome h; obtain ⟨v167, h, hg167⟩ := h
        replace h := ct rfl h
        refine wl_skip rfl rfl (wl_skip rfl rfl (wl_skip rfl rfl (wl_skip rfl rfl (wl_skip rfl rfl ?_))))
        obtain rfl := sI h
        have h := hg167; clear hg167
        refine wP (v := .bool true) rfl rfl (wP rfl rfl ?_)
        replace h := bsome h; obtain ⟨v174, h, hg174⟩ := h
        replace h := ct rfl h
        refine wl_skip rfl rfl (wl_skip rfl rfl (wl_skip rfl rfl (wl_skip rfl rfl (wl_skip rfl rfl ?_))))
        obtain rfl := sI h
        have h := hg174; clear hg174
        refine wP (v := .bool true) rfl rfl (wl_nil (wx_then ?_))
        replace h := ct rfl h
        refine wc_cond_true rfl ?_
        refine wc_seq (wc_region (wP rfl rfl (wl_nil (wx_then (wc_ret (wx_then_ret (wx_block_ret (wx_then_ret ?_))))))))
        obtain rfl := Option.some.inj h
        have h := hl29; clear hl29; try dsimp only [orE_l, orE_r] at h
        refine wx_then_ret (wx_block_ret (wx_then_ret ?_))
        obtain rfl := sI h
        exact wx_pf tt_ok (.inl rfl) Tryd.results5 (Res.tmp rfl Res.nil) rfl
      replace h := cf hc h
      refine wl_run rfl (wP rfl rfl ?_)
      replace h := bsome h; obtain ⟨v156, x156, h⟩ := h
      refine wl_run rfl (wl_cq Tryd.call17 rfl rfl rfl (q_rd (k_rollback_Engine_T (p0 := za) (p0_4 := ze) (p0_5 := zj) zac zae zad zaf zag zah zaq zap x156) (pCons (sC hC) (pApp (sC hA') (pApp (sC hA') (pCons (sC hC) (pApp (sC hA') (pCons (sC hC) (pApp (sC hA') pNil))))))) (fun _ _ => trivial)) rfl (wl_run rfl (wP rfl rfl (wl_run rfl (wP (v := .int .u64 (IntKind.wrap .u64 zl)) rfl rfl (wl_run rfl (wP (v := .bool (v156 != (IntKind.wrap .u64 zl))) rfl rfl ?_)))))))
      obtain rfl := sI h
      have h := hg160; clear hg160
      refine wP (v := .bool (v156 != (IntKind.wrap .u64 zl))) rfl rfl (wP rfl rfl ?_)
      replace h := bsome h; obtain ⟨v167, h, hg167⟩ := h
      refine wl_split (t := 161) rfl (fun hc => ?_) (fun hc => ?_)
      · replace h := ct hc h
        refine wl_skip rfl rfl (wl_skip rfl rfl (wl_skip rfl rfl (wl_skip rfl rfl (wl_skip rfl rfl ?_))))
        obtain rfl := sI h
        have h := hg167; clear hg167
        refine wP (v := .bool true) rfl rfl (wP rfl rfl ?_)
        replace h := bsome h; obtain ⟨v174, h, hg174⟩ := h
        replace h := ct rfl h
        refine wl_skip rfl rfl (wl_skip rfl rfl (wl_skip rfl rfl (wl_skip rfl rfl (wl_skip rfl rfl ?_))))
        obtain rfl := sI h
        have h := hg174; clear hg174
        refine wP (v := .bool true) rfl rfl (wl_nil (wx_then ?_))
        replace h := ct rfl h
        refine wc_cond_true rfl ?_
        refine wc_seq (wc_region (wP rfl rfl (wl_nil (wx_then (wc_ret (wx_then_ret (wx_block_ret (wx_then_ret ?_))))))))
        obtain rfl := Option.some.inj h
        have h := hl29; clear hl29; try dsimp only [orE_l, orE_r] at h
        refine wx_then_ret (wx_block_ret (wx_then_ret ?_))
        obtain rfl := sI h
        exact wx_pf tt_ok (.inl rfl) Tryd.results5 (Res.tmp rfl Res.nil) rfl
      replace h := cf hc h
      refine wl_run rfl (wP rfl rfl ?_)
      replace h := bsome h; obtain ⟨v163, x163, h⟩ := h
      refine wl_run rfl (wl_cq Tryd.call19 rfl rfl rfl (q_rd (k_rollback_Engine_Known (p0 := za) (p0_4 := ze) (p0_5 := zj) zac zae zad zaf zag zah zaq zap x163) (pCons (sC hC) (pApp (sC hA') (pApp (sC hA') (pCons (sC hC) (pApp (sC hA') (pCons (sC hC) (pApp (sC hA') pNil))))))) (fun _ _ => trivial)) rfl (wl_run rfl (wP rfl rfl (wl_run rfl (wP (v := .int .u64 (IntKind.wrap .u64 zz)) rfl rfl (wl_run rfl (wP (v := .bool (v163 != (IntKind.wrap .u64 zz))) rfl rfl ?_)))))))
      obtain rfl := sI h
      have h := hg167; clear hg167
      refine wP (v := .bool (v163 != (IntKind.wrap .u64 zz))) rfl rfl (wP rfl rfl ?_)
      replace h := bsome h; obtain ⟨v174, h, hg174⟩ := h
      refine wl_split (t := 168) rfl (fun hc => ?_) (fun hc => ?_)
      · replace h := ct hc h
        refine wl_skip rfl rfl (wl_skip rfl rfl (wl_skip rfl rfl (wl_skip rfl rfl (wl_skip rfl rfl ?_))))
        obtain rfl := sI h
        have h := hg174; clear hg174
        refine wP (v := .bool true) rfl rfl (wl_nil (wx_then ?_))
        replace h := ct rfl h
        refine wc_cond_true rfl ?_
        refine wc_seq (wc_region (wP rfl rfl (wl_nil (wx_then (wc_ret (wx_then_ret (wx_block_ret (wx_then_ret ?_))))))))
        obtain rfl := Option.some.inj h
        have h := hl29; clear hl29; try dsimp only [orE_l, orE_r] at h
        refine wx_then_ret (wx_block_ret (wx_then_ret ?_))
        obtain rfl := sI h
        exact wx_pf tt_ok (.inl rfl) Tryd.results5 (Res.tmp rfl Res.nil) rfl
      replace h := cf hc h
      refine wl_run rfl (wP rfl rfl (wl_run rfl (wP rfl rfl (wl_run rfl (wP (v := .int .i64 (IntKind.wrap .i64 (zl - (IntKind.wrap .i64 (zm + (1 : Int)))))) rfl rfl (wl_run rfl (wP rfl rfl (wl_run rfl (wP (v := .bool (decide ((IntKind.wrap .i64 ((1 : Int) + (IntKind.wrap .i64 (Int.tmod p0.Window 12)))) < (IntKind.wrap .i64 (zl - (IntKind.wrap .i64 (zm + (1 : Int)))))))) rfl rfl ?_)))))))))
      obtain rfl := sI h
      have h := hg174; clear hg174
      refine wP (v := .bool (decide ((IntKind.wrap .i64 ((1 : Int) + (IntKind.wrap .i64 (Int.tmod p0.Window 12)))) < (IntKind.wrap .i64 (zl - (IntKind.wrap .i64 (zm + (1 : Int)))))))) rfl rfl (wl_nil (wx_then (wc_cond rfl (fun hc => ?_) (fun hc => ?_))))
      · replace h := ct hc h
        refine wc_seq (wc_region (wP rfl rfl (wl_nil (wx_then (wc_ret (wx_then_ret (wx_block_ret (wx_then_ret ?_))))))))
        obtain rfl := Option.some.inj h
        have h := hl29; clear hl29; try dsimp only [orE_l, orE_r] at h
        refine wx_then_ret (wx_block_ret (wx_then_ret ?_))
        obtain rfl := sI h
        exact wx_pf tt_ok (.inl rfl) Tryd.results5 (Res.tmp rfl Res.nil) rfl
      replace h := cf hc h
      refine wc_skip (wx_then (wc_seq (wc_k2 (Ls := (⟨b15, [.int .u8 zbz.1, .int .u8 zbz.2], 45, (0, 0)⟩ :: (⟨zv, (.int .u8 za.player :: .int .i64 za.window :: .int .u64 za.sure.Frame :: .int .u64 za.sure.Seed :: pl14 za.sure.Players [.slice zbm zbq zbo, .int .u16 za.sure.Score.1, .int .u16 za.sure.Score.2, .slice zbn zbr zbp, .pointer (some ⟨zav, 0, none⟩), .pointer (some ⟨zbw, 0, none⟩)]), 55, (0, 0)⟩ :: (zbk ++ (zbl ++ (⟨zav, [.int .u64 ze.first_, .slice zbt zbv zbu, .int .u8 ze.last], 94, (0, 0)⟩ :: (zbs ++ (⟨b2, [.int .u64 p0.Seed, .int .u8 p0.Player, .int .u8 p0.Window, .slice p0a0 p0n0 p0c0, .slice p0a1 p0n1 p0c1], 25, (0, 0)⟩ :: [])))))))) [5, 10, 11] [] [0, 1, 3, 7, 15, 31, 15, 15, 15, 15, 1023, 2047, 4095, 8191] [0, 1, 2, 3, 4, 6, 7, 8, 9, 5, 10, 11, 12, 13] (by kernel_rfl) (by kernel_rfl) (by kernel_rfl) ?_)))
      refine k_val rfl rfl rfl (pSub (pH (pH (pA (pA (pH (pA (pCons (sC (sA hC)) pNil)))))))) (stepV_ok tt_ok rfl) rfl ?_
      refine k_val (v := .int .i64 (Int.tmod (IntKind.wrap .i64 (IntKind.wrap .u8 (Int.tdiv v56 4))) 3)) rfl rfl rfl (pSub (pH (pH (pA (pA (pH (pA (pCons (sC (sA hC)) pNil)))))))) (stepV_ok tt_ok rfl) rfl ?_
      refine k_val (v := .bool ((Int.tmod (IntKind.wrap .i64 (IntKind.wrap .u8 (Int.tdiv v56 4))) 3) == (0 : Int))) rfl rfl rfl (pSub (pH (pH (pA (pA (pH (pA (pCons (sC (sA hC)) pNil)))))))) (stepV_ok tt_ok rfl) rfl ?_
      refine k_val rfl rfl rfl (pSub (pH (pH (pA (pA (pH (pA (pCons (sC (sA hC)) pNil)))))))) (stepV_ok tt_ok rfl) rfl ?_
      replace h := bsome h; obtain ⟨⟨v188, zbc, zbd⟩, h, hg188⟩ := h
      refine k_split (t := 178) rfl (fun hc => ?_) (fun hc => ?_)
      · replace h := ct hc h
        refine k_val rfl rfl rfl (pSub (pH (pH (pA (pA (pH (pA (pCons (sC (sA hC)) pNil)))))))) (stepV_ok tt_ok rfl) rfl ?_
        refine k_val (v := .agg #[.int .u64 p0.Seed, .int .u8 p0.Player, .int .u8 p0.Window, .slice p0a0 p0n0 p0c0, .slice p0a1 p0n1 p0c1]) rfl rfl rfl (pSub (pH (pH (pA (pA (pH (pA (pCons (sC (sA hC)) pNil)))))))) (val_load tt_ok rfl (mT (mT (mR (mR (mT (mR (mH))))))) rfl) rfl ?_
        refine k_val rfl rfl rfl (pSub (pH (pH (pA (pA (pH (pA (pCons (sC (sA hC)) pNil)))))))) (stepV_ok tt_ok rfl) rfl ?_
        refine k_val rfl rfl rfl (pSub (pH (pH (pA (pA (pH (pA (pCons (sC (sA hC)) pNil)))))))) (stepV_ok tt_ok rfl) rfl ?_
        refine k_val rfl rfl rfl (pSub (pH (pH (pA (pA (pH (pA (pCons (sC (sA hC)) pNil)))))))) (stepV_ok tt_ok rfl) rfl ?_
        replace h := bsome h; obtain ⟨⟨zi, v180⟩, x180, h⟩ := h; try dsimp only at h
        refine k_cs rfl rfl rfl Tryd.call11 rfl rfl rfl (s_sp (k_rollback_Engine_Shown (p0 := za) (p0_4 := ze) (p0_5 := zj) zac zae zad zaf zag zah zaq zap x180) (pCons (sC hC) (pApp (sC hA') (pApp (sC hA') (pCons (sC hC) (pApp (sC hA') (pCons (sC hC) (pApp (sC hA') pNil))))))) (fun w hI => ⟨(Rds.call G0S (pCons (sC hC) (pApp (sC hA') (pApp (sC hA') (pCons (sC hC) (pApp (sC hA') (pCons (sC hC) (pApp (sC hA') pNil))))))) rsub_nil) w hI, (Rds.call G1S (pCons (sC hC) (pApp (sC hA') (pApp (sC hA') (pCons (sC hC) (pApp (sC hA') (pCons (sC hC) (pApp (sC hA') pNil))))))) rsub_nil) w hI⟩)) rfl (.inr (by rintro _ _ ⟨_, ⟨_, _, _, _, _, _, _, _, _, _, rfl, rfl⟩, rfl⟩; exact ⟨_, (pCons (sC (sA (sA (sC (sA (sC (sA (sA hC)))))))) (pH (pA (pA (pH (pA (pCons (sC (sA (sA hC))) pNil)))))))⟩)) ?_
        rintro _ _ ⟨_, ⟨zbb, zba, v180a0, v180n0, v180c0, v180B0, zaz, zay, v180N0, v180V0, rfl, rfl⟩, rfl⟩
        replace h := bsome h; obtain ⟨v185, x185, h⟩ := h
        refine k_cs rfl rfl rfl Tryd.call22 rfl rfl rfl (s_sp (k_hindcastlaw26_Game_shown (p0 := p0) p0N0 p0H0 p0N1 p0H1 x185) pNil (fun w hI => ⟨(Rds.call p0S0 pNil rsub_nil) w hI, (Rds.call p0S1 pNil rsub_nil) w hI, (Rds.call G0S pNil rsub_nil) w hI, (Rds.call G1S pNil rsub_nil) w hI⟩)) rfl (.inr (by rintro _ _ ⟨_, ⟨_, _, _, _, _, _, rfl, rfl⟩, rfl⟩; exact ⟨_, (pCons (sA (sC (sA (sA (sC (sA (sC (sA (sA hC))))))))) (pCons (sA hC) (pApp (sA hA') (pApp (sA hA') (pCons (sA hC) (pApp (sA hA') (pCons (sA (sC (sA (sA hC)))) pNil)))))))⟩)) ?_
        rintro _ _ ⟨_, ⟨v185a0, v185n0, v185c0, v185B0, v185N0, v185V0, rfl, rfl⟩, rfl⟩
        replace h := bsome h; obtain ⟨v186, x186, h⟩ := h
        refine k_cq rfl rfl rfl Tryd.call14 rfl rfl rfl (q_pf (k_state_Same (p0 := v180) (p1 := v185) v180N0 (vec_cap v180V0) v185N0 (vec_cap v185V0) x186) (fun w hI => ⟨(Rds.call (Rds.of_vec v180V0) pNil ⟨_, (sA (sC (sA (sA (sC (sA (sC (sA hA'))))))))⟩) w hI, (Rds.call (Rds.of_vec v185V0) pNil ⟨_, hA'⟩) w hI⟩)) rfl (pSub (pCons (sA (sC (sA (sA (sC (sA (sC (sA (sA hC))))))))) (pCons (sA hC) (pApp (sA hA') (pApp (sA hA') (pCons (sA hC) (pApp (sA hA') (pCons (sA (sC (sA (sA hC)))) pNil)))))))) ?_
        refine k_val (v := .bool (!v186)) rfl rfl rfl (pSub (pCons (sA (sC (sA (sA (sC (sA (sC (sA (sA hC))))))))) (pCons (sA hC) (pApp (sA hA') (pApp (sA hA') (pCons (sA hC) (pApp (sA hA') (pCons (sA (sC (sA (sA hC)))) pNil)))))))) (stepV_ok tt_ok rfl) rfl ?_
        simp only [Option.some.injEq, Prod.mk.injEq] at h
        obtain ⟨rfl, rfl, rfl⟩ := h
        have h := hg188; clear hg188; try dsimp only at h
        refine k_val (v := .bool (!v186)) rfl rfl rfl (pSub (pCons (sA (sC (sA (sA (sC (sA (sC (sA (sA hC))))))))) (pCons (sA hC) (pApp (sA hA') (pApp (sA hA') (pCons (sA hC) (pApp (sA hA') (pCons (sA (sC (sA (sA hC)))) pNil)))))))) (stepV_ok tt_ok rfl) rfl ?_
        refine k_end (by kernel_rfl) ?_
        refine wx_then (wc_cond rfl (fun hc => ?_) (fun hc => ?_))
        · replace h := ct hc h
          refine wc_seq (wc_region (wP rfl rfl (wl_nil (wx_then (wc_ret (wx_block_ret (wx_then_ret ?_)))))))
          obtain rfl := Option.some.inj h
          have h := hl29; clear hl29; try dsimp only [orE_l, orE_r] at h
          refine wx_then_ret (wx_block_ret (wx_then_ret ?_))
          obtain rfl := sI h
          exact wx_pf tt_ok (.inl rfl) Tryd.results5 (Res.tmp rfl Res.nil) rfl
        replace h := cf hc h
        refine wc_skip (wx_block (wx_then (wc_region (wP rfl rfl (wP (v := .int .i64 (IntKind.wrap .i64 (zy + (1 : Int)))) rfl rfl (wP rfl rfl (wl_nil ?_)))))))
        exact wx_round m29 (Nat.lt_succ_self m29) ⟨(IntKind.wrap .i64 (zm + (1 : Int))), zl, zz, (IntKind.wrap .i64 (zy + (1 : Int))), za.player, za.window, za.sure.Frame, za.sure.Seed, za.sure.Players, za.sure.Shots, za.sure.Score, za.own, ze.first_, ze.l, ze.last, zi.size, zi.places, zbm, zbq, zbo, zbk, zbn, zbr, zbp, zbl, zbt, zbv, zbu, zbs, zbb, zba, h, zac, zae, zad, zaf, zag, zah, zaz, zay, rfl, rfl⟩ (agree_cons rfl (agree_cons rfl (agree_cons rfl (agree_cons rfl (agree_cons rfl (agree_cons rfl (agree_cons rfl (agree_cons rfl (agree_cons rfl agree_nil))))))))) (pSub (pCons (sA (sC (sA (sA (sC (sA (sC (sA (sA (sC hC)))))))))) (pCons (sA hC) (pCons (sA (sA (sA hC))) (pCons (sA (sA (sA (sA hC)))) (pApp (sA hA') (pApp (sA hA') (pApp (sA hA') (pApp (sA hA') pNil)))))))))
      replace h := cf hc h
      refine k_skip rfl rfl (pSub (pH (pH (pA (pA (pH (pA (pCons (sC (sA hC)) pNil)))))))) rfl ?_
      refine k_skip rfl rfl (pSub (pH (pH (pA (pA (pH (pA (pCons (sC (sA hC)) pNil)))))))) rfl ?_
      refine k_skip rfl rfl (pSub (pH (pH (pA (pA (pH (pA (pCons (sC (sA hC)) pNil)))))))) rfl ?_
      refine k_skip rfl rfl (pSub (pH (pH (pA (pA (pH (pA (pCons (sC (sA hC)) pNil)))))))) rfl ?_
      refine k_skip rfl rfl (pSub (pH (pH (pA (pA (pH (pA (pCons (sC (sA hC)) pNil)))))))) rfl ?_
      refine k_skip rfl rfl (pSub (pH (pH (pA (pA (pH (pA (pCons (sC (sA hC)) pNil)))))))) rfl ?_
      refine k_skip rfl rfl (pSub (pH (pH (pA (pA (pH (pA (pCons (sC (sA hC)) pNil)))))))) rfl ?_
      refine k_skip rfl rfl (pSub (pH (pH (pA (pA (pH (pA (pCons (sC (sA hC)) pNil)))))))) rfl ?_
      refine k_skip rfl rfl (pSub (pH (pH (pA (pA (pH (pA (pCons (sC (sA hC)) pNil)))))))) rfl ?_
      simp only [Option.some.injEq, Prod.mk.injEq] at h
      obtain ⟨rfl, rfl, rfl⟩ := h
      have h := hg188; clear hg188; try dsimp only at h
      refine k_val (v := .bool false) rfl rfl rfl (pSub (pH (pH (pA (pA (pH (pA (pCons (sC (sA hC)) pNil)))))))) (stepV_ok tt_ok rfl) rfl ?_
      refine k_end (by kernel_rfl) ?_
      refine wx_then ?_
      replace h := cf rfl h
      refine wc_cond_false rfl ?_
      refine wc_skip (wx_block (wx_then (wc_region (wP rfl rfl (wP (v := .int .i64 (IntKind.wrap .i64 (zy + (1 : Int)))) rfl rfl (wP rfl rfl (wl_nil ?_)))))))
      exact wx_round m29 (Nat.lt_succ_self m29) ⟨(IntKind.wrap .i64 (zm + (1 : Int))), zl, zz, (IntKind.wrap .i64 (zy + (1 : Int))), za.player, za.window, za.sure.Frame, za.sure.Seed, za.sure.Players, za.sure.Shots, za.sure.Score, za.own, ze.first_, ze.l, ze.last, zj.size, zj.places, zbm, zbq, zbo, zbk, zbn, zbr, zbp, zbl, zbt, zbv, zbu, zbs, zcm, zcl, h, zac, zae, zad, zaf, zag, zah, zaq, zap, rfl, rfl⟩ (agree_cons rfl (agree_cons rfl (agree_cons rfl (agree_cons rfl (agree_cons rfl (agree_cons rfl (agree_cons rfl (agree_cons rfl (agree_cons rfl agree_nil))))))))) (pSub (pCons (sC (sC (sA (sA (sC (sA (sC (sA hC)))))))) (pCons (sC hC) (pCons (sC (sA (sA hC))) (pCons (sC (sA (sA (sA hC)))) (pApp (sC hA') (pApp (sC hA') (pApp (sC hA') (pApp (sC hA') pNil)))))))))
    replace h := cf hc h
    refine wc_skip (wx_block (wx_then (wc_seq (wc_seq (wc_region (wP rfl rfl ?_))))))
    replace h := bsome h; obtain ⟨v150, x150, h⟩ := h
    refine wl_cq Tryd.call16 rfl rfl rfl (q_rd (k_rollback_Engine_C (p0 := za) (p0_4 := ze) (p0_5 := zj) zac zae zad zaf zag zah zaq zap x150) (pCons (sC hC) (pApp (sC hA') (pApp (sC hA') (pCons (sC hC) (pApp (sC hA') (pCons (sC hC) (pApp (sC hA') pNil))))))) (fun _ _ => trivial)) rfl ?_
    refine wP rfl rfl (wP (v := .int .u64 (IntKind.wrap .u64 zm)) rfl rfl (wP (v := .bool (v150 != (IntKind.wrap .u64 zm))) rfl rfl (wP rfl rfl ?_)))
    replace h := bsome h; obtain ⟨v160, h, hg160⟩ := h
    refine wl_split (t := 154) rfl (fun hc => ?_) (fun hc => ?_)
    · replace h := ct hc h
      refine wl_skip rfl rfl (wl_skip rfl rfl (wl_skip rfl rfl (wl_skip rfl rfl (wl_skip rfl rfl ?_))))
      obtain rfl := sI h
      have h := hg160; clear hg160
      refine wP (v := .bool true) rfl rfl (wP rfl rfl ?_)
      replace h := bsome h; obtain ⟨v167, h, hg167⟩ := h
      replace h := ct rfl h
      refine wl_skip rfl rfl (wl_skip rfl rfl (wl_skip rfl rfl (wl_skip rfl rfl (wl_skip rfl rfl ?_))))
      obtain rfl := sI h
      have h := hg167; clear hg167
      refine wP (v := .bool true) rfl rfl (wP rfl rfl ?_)
      replace h := bsome h; obtain ⟨v174, h, hg174⟩ := h
      replace h := ct rfl h
      refine wl_skip rfl rfl (wl_skip rfl rfl (wl_skip rfl rfl (wl_skip rfl rfl (wl_skip rfl rfl ?_))))
      obtain rfl := sI h
      have h := hg174; clear hg174
      refine wP (v := .bool true) rfl rfl (wl_nil (wx_then ?_))
      replace h := ct rfl h
      refine wc_cond_true rfl ?_
      refine wc_seq (wc_region (wP rfl rfl (wl_nil (wx_then (wc_ret (wx_then_ret (wx_block_ret (wx_then_ret ?_))))))))
      obtain rfl := Option.some.inj h
      have h := hl29; clear hl29; try dsimp only [orE_l, orE_r] at h
      refine wx_then_ret (wx_block_ret (wx_then_ret ?_))
      obtain rfl := sI h
      exact wx_pf tt_ok (.inl rfl) Tryd.results5 (Res.tmp rfl Res.nil) rfl
    replace h := cf hc h
    refine wl_run rfl (wP rfl rfl ?_)
    replace h := bsome h; obtain ⟨v156, x156, h⟩ := h
    refine wl_run rfl (wl_cq Tryd.call17 rfl rfl rfl (q_rd (k_rollback_Engine_T (p0 := za) (p0_4 := ze) (p0_5 := zj) zac zae zad zaf zag zah zaq zap x156) (pCons (sC hC) (pApp (sC hA') (pApp (sC hA') (pCons (sC hC) (pApp (sC hA') (pCons (sC hC) (pApp (sC hA') pNil))))))) (fun _ _ => trivial)) rfl (wl_run rfl (wP rfl rfl (wl_run rfl (wP (v := .int .u64 (IntKind.wrap .u64 zl)) rfl rfl (wl_run rfl (wP (v := .bool (v156 != (IntKind.wrap .u64 zl))) rfl rfl ?_)))))))
    obtain rfl := sI h
    have h := hg160; clear hg160
    refine wP (v := .bool (v156 != (IntKind.wrap .u64 zl))) rfl rfl (wP rfl rfl ?_)
    replace h := bsome h; obtain ⟨v167, h, hg167⟩ := h
    refine wl_split (t := 161) rfl (fun hc => ?_) (fun hc => ?_)
    · replace h := ct hc h
      refine wl_skip rfl rfl (wl_skip rfl rfl (wl_skip rfl rfl (wl_skip rfl rfl (wl_skip rfl rfl ?_))))
      obtain rfl := sI h
      have h := hg167; clear hg167
      refine wP (v := .bool true) rfl rfl (wP rfl rfl ?_)
      replace h := bsome h; obtain ⟨v174, h, hg174⟩ := h
      replace h := ct rfl h
      refine wl_skip rfl rfl (wl_skip rfl rfl (wl_skip rfl rfl (wl_skip rfl rfl (wl_skip rfl rfl ?_))))
      obtain rfl := sI h
      have h := hg174; clear hg174
      refine wP (v := .bool true) rfl rfl (wl_nil (wx_then ?_))
      replace h := ct rfl h
      refine wc_cond_true rfl ?_
      refine wc_seq (wc_region (wP rfl rfl (wl_nil (wx_then (wc_ret (wx_then_ret (wx_block_ret (wx_then_ret ?_))))))))
      obtain rfl := Option.some.inj h
      have h := hl29; clear hl29; try dsimp only [orE_l, orE_r] at h
      refine wx_then_ret (wx_block_ret (wx_then_ret ?_))
      obtain rfl := sI h
      exact wx_pf tt_ok (.inl rfl) Tryd.results5 (Res.tmp rfl Res.nil) rfl
    replace h := cf hc h
    refine wl_run rfl (wP rfl rfl ?_)
    replace h := bsome h; obtain ⟨v163, x163, h⟩ := h
    refine wl_run rfl (wl_cq Tryd.call19 rfl rfl rfl (q_rd (k_rollback_Engine_Known (p0 := za) (p0_4 := ze) (p0_5 := zj) zac zae zad zaf zag zah zaq zap x163) (pCons (sC hC) (pApp (sC hA') (pApp (sC hA') (pCons (sC hC) (pApp (sC hA') (pCons (sC hC) (pApp (sC hA') pNil))))))) (fun _ _ => trivial)) rfl (wl_run rfl (wP rfl rfl (wl_run rfl (wP (v := .int .u64 (IntKind.wrap .u64 zz)) rfl rfl (wl_run rfl (wP (v := .bool (v163 != (IntKind.wrap .u64 zz))) rfl rfl ?_)))))))
    obtain rfl := sI h
    have h := hg167; clear hg167
    refine wP (v := .bool (v163 != (IntKind.wrap .u64 zz))) rfl rfl (wP rfl rfl ?_)
    replace h := bsome h; obtain ⟨v174, h, hg174⟩ := h
    refine wl_split (t := 168) rfl (fun hc => ?_) (fun hc => ?_)
    · replace h := ct hc h
      refine wl_skip rfl rfl (wl_skip rfl rfl (wl_skip rfl rfl (wl_skip rfl rfl (wl_skip rfl rfl ?_))))
      obtain rfl := sI h
      have h := hg174; clear hg174
      refine wP (v := .bool true) rfl rfl (wl_nil (wx_then ?_))
      replace h := ct rfl h
      refine wc_cond_true rfl ?_
      refine wc_seq (wc_region (wP rfl rfl (wl_nil (wx_then (wc_ret (wx_then_ret (wx_block_ret (wx_then_ret ?_))))))))
      obtain rfl := Option.some.inj h
      have h := hl29; clear hl29; try dsimp only [orE_l, orE_r] at h
      refine wx_then_ret (wx_block_ret (wx_then_ret ?_))
      obtain rfl := sI h
      exact wx_pf tt_ok (.inl rfl) Tryd.results5 (Res.tmp rfl Res.nil) rfl
    replace h := cf hc h
    refine wl_run rfl (wP rfl rfl (wl_run rfl (wP rfl rfl (wl_run rfl (wP (v := .int .i64 (IntKind.wrap .i64 (zl - zm))) rfl rfl (wl_run rfl (wP rfl rfl (wl_run rfl (wP (v := .bool (decide ((IntKind.wrap .i64 ((1 : Int) + (IntKind.wrap .i64 (Int.tmod p0.Window 12)))) < (IntKind.wrap .i64 (zl - zm))))) rfl rfl ?_)))))))))
    obtain rfl := sI h
    have h := hg174; clear hg174
    refine wP (v := .bool (decide ((IntKind.wrap .i64 ((1 : Int) + (IntKind.wrap .i64 (Int.tmod p0.Window 12)))) < (IntKind.wrap .i64 (zl - zm))))) rfl rfl (wl_nil (wx_then (wc_cond rfl (fun hc => ?_) (fun hc => ?_))))
    · replace h := ct hc h
      refine wc_seq (wc_region (wP rfl rfl (wl_nil (wx_then (wc_ret (wx_then_ret (wx_block_ret (wx_then_ret ?_))))))))
      obtain rfl := Option.some.inj h
      have h := hl29; clear hl29; try dsimp only [orE_l, orE_r] at h
      refine wx_then_ret (wx_block_ret (wx_then_ret ?_))
      obtain rfl := sI h
      exact wx_pf tt_ok (.inl rfl) Tryd.results5 (Res.tmp rfl Res.nil) rfl
    replace h := cf hc h
    refine wc_skip (wx_then (wc_seq (wc_k2 (Ls := (⟨b15, [.int .u8 zbz.1, .int .u8 zbz.2], 45, (0, 0)⟩ :: (⟨zv, (.int .u8 za.player :: .int .i64 za.window :: .int .u64 za.sure.Frame :: .int .u64 za.sure.Seed :: pl14 za.sure.Players [.slice zbm zbq zbo, .int .u16 za.sure.Score.1, .int .u16 za.sure.Score.2, .slice zbn zbr zbp, .pointer (some ⟨zav, 0, none⟩), .pointer (some ⟨zbw, 0, none⟩)]), 55, (0, 0)⟩ :: (zbk ++ (zbl ++ (⟨zav, [.int .u64 ze.first_, .slice zbt zbv zbu, .int .u8 ze.last], 94, (0, 0)⟩ :: (zbs ++ (⟨b2, [.int .u64 p0.Seed, .int .u8 p0.Player, .int .u8 p0.Window, .slice p0a0 p0n0 p0c0, .slice p0a1 p0n1 p0c1], 25, (0, 0)⟩ :: [])))))))) [5, 10, 11] [] [0, 1, 3, 7, 15, 31, 15, 15, 15, 15, 1023, 2047, 4095, 8191] [0, 1, 2, 3, 4, 6, 7, 8, 9, 5, 10, 11, 12, 13] (by kernel_rfl) (by kernel_rfl) (by kernel_rfl) ?_)))
    refine k_val rfl rfl rfl (pSub (pH (pH (pA (pA (pH (pA (pCons (sC (sA hC)) pNil)))))))) (stepV_ok tt_ok rfl) rfl ?_
    refine k_val (v := .int .i64 (Int.tmod (IntKind.wrap .i64 (IntKind.wrap .u8 (Int.tdiv v56 4))) 3)) rfl rfl rfl (pSub (pH (pH (pA (pA (pH (pA (pCons (sC (sA hC)) pNil)))))))) (stepV_ok tt_ok rfl) rfl ?_
    refine k_val (v := .bool ((Int.tmod (IntKind.wrap .i64 (IntKind.wrap .u8 (Int.tdiv v56 4))) 3) == (0 : Int))) rfl rfl rfl (pSub (pH (pH (pA (pA (pH (pA (pCons (sC (sA hC)) pNil)))))))) (stepV_ok tt_ok rfl) rfl ?_
    refine k_val rfl rfl rfl (pSub (pH (pH (pA (pA (pH (pA (pCons (sC (sA hC)) pNil)))))))) (stepV_ok tt_ok rfl) rfl ?_
    replace h := bsome h; obtain ⟨⟨v188, zbc, zbd⟩, h, hg188⟩ := h
    refine k_split (t := 178) rfl (fun hc => ?_) (fun hc => ?_)
    · replace h := ct hc h
      refine k_val rfl rfl rfl (pSub (pH (pH (pA (pA (pH (pA (pCons (sC (sA hC)) pNil)))))))) (stepV_ok tt_ok rfl) rfl ?_
      refine k_val (v := .agg #[.int .u64 p0.Seed, .int .u8 p0.Player, .int .u8 p0.Window, .slice p0a0 p0n0 p0c0, .slice p0a1 p0n1 p0c1]) rfl rfl rfl (pSub (pH (pH (pA (pA (pH (pA (pCons (sC (sA hC)) pNil)))))))) (val_load tt_ok rfl (mT (mT (mR (mR (mT (mR (mH))))))) rfl) rfl ?_
      refine k_val rfl rfl rfl (pSub (pH (pH (pA (pA (pH (pA (pCons (sC (sA hC)) pNil)))))))) (stepV_ok tt_ok rfl) rfl ?_
      refine k_val rfl rfl rfl (pSub (pH (pH (pA (pA (pH (pA (pCons (sC (sA hC)) pNil)))))))) (stepV_ok tt_ok rfl) rfl ?_
      refine k_val rfl rfl rfl (pSub (pH (pH (pA (pA (pH (pA (pCons (sC (sA hC)) pNil)))))))) (stepV_ok tt_ok rfl) rfl ?_
      replace h := bsome h; obtain ⟨⟨zi, v180⟩, x180, h⟩ := h; try dsimp only at h
      refine k_cs rfl rfl rfl Tryd.call11 rfl rfl rfl (s_sp (k_rollback_Engine_Shown (p0 := za) (p0_4 := ze) (p0_5 := zj) zac zae zad zaf zag zah zaq zap x180) (pCons (sC hC) (pApp (sC hA') (pApp (sC hA') (pCons (sC hC) (pApp (sC hA') (pCons (sC hC) (pApp (sC hA') pNil))))))) (fun w hI => ⟨(Rds.call G0S (pCons (sC hC) (pApp (sC hA') (pApp (sC hA') (pCons (sC hC) (pApp (sC hA') (pCons (sC hC) (pApp (sC hA') pNil))))))) rsub_nil) w hI, (Rds.call G1S (pCons (sC hC) (pApp (sC hA') (pApp (sC hA') (pCons (sC hC) (pApp (sC hA') (pCons (sC hC) (pApp (sC hA') pNil))))))) rsub_nil) w hI⟩)) rfl (.inr (by rintro _ _ ⟨_, ⟨_, _, _, _, _, _, _, _, _, _, rfl, rfl⟩, rfl⟩; exact ⟨_, (pCons (sC (sA (sA (sC (sA (sC (sA (sA hC)))))))) (pH (pA (pA (pH (pA (pCons (sC (sA (sA hC))) pNil)))))))⟩)) ?_
      rintro _ _ ⟨_, ⟨zbb, zba, v180a0, v180n0, v180c0, v180B0, zaz, zay, v180N0, v180V0, rfl, rfl⟩, rfl⟩
      replace h := bsome h; obtain ⟨v185, x185, h⟩ := h
      refine k_cs rfl rfl rfl Tryd.call22 rfl rfl rfl (s_sp (k_hindcastlaw26_Game_shown (p0 := p0) p0N0 p0H0 p0N1 p0H1 x185) pNil (fun w hI => ⟨(Rds.call p0S0 pNil rsub_nil) w hI, (Rds.call p0S1 pNil rsub_nil) w hI, (Rds.call G0S pNil rsub_nil) w hI, (Rds.call G1S pNil rsub_nil) w hI⟩)) rfl (.inr (by rintro _ _ ⟨_, ⟨_, _, _, _, _, _, rfl, rfl⟩, rfl⟩; exact ⟨_, (pCons (sA (sC (sA (sA (sC (sA (sC (sA (sA hC))))))))) (pCons (sA hC) (pApp (sA hA') (pApp (sA hA') (pCons (sA hC) (pApp (sA hA') (pCons (sA (sC (sA (sA hC)))) pNil)))))))⟩)) ?_
      rintro _ _ ⟨_, ⟨v185a0, v185n0, v185c0, v185B0, v185N0, v185V0, rfl, rfl⟩, rfl⟩
      replace h := bsome h; obtain ⟨v186, x186, h⟩ := h
      refine k_cq rfl rfl rfl Tryd.call14 rfl rfl rfl (q_pf (k_state_Same (p0 := v180) (p1 := v185) v180N0 (vec_cap v180V0) v185N0 (vec_cap v185V0) x186) (fun w hI => ⟨(Rds.call (Rds.of_vec v180V0) pNil ⟨_, (sA (sC (sA (sA (sC (sA (sC (sA hA'))))))))⟩) w hI, (Rds.call (Rds.of_vec v185V0) pNil ⟨_, hA'⟩) w hI⟩)) rfl (pSub (pCons (sA (sC (sA (sA (sC (sA (sC (sA (sA hC))))))))) (pCons (sA hC) (pApp (sA hA') (pApp (sA hA') (pCons (sA hC) (pApp (sA hA') (pCons (sA (sC (sA (sA hC)))) pNil)))))))) ?_
      refine k_val (v := .bool (!v186)) rfl rfl rfl (pSub (pCons (sA (sC (sA (sA (sC (sA (sC (sA (sA hC))))))))) (pCons (sA hC) (pApp (sA hA') (pApp (sA hA') (pCons (sA hC) (pApp (sA hA') (pCons (sA (sC (sA (sA hC)))) pNil)))))))) (stepV_ok tt_ok rfl) rfl ?_
      simp only [Option.some.injEq, Prod.mk.injEq] at h
      obtain ⟨rfl, rfl, rfl⟩ := h
      have h := hg188; clear hg188; try dsimp only at h
      refine k_val (v := .bool (!v186)) rfl rfl rfl (pSub (pCons (sA (sC (sA (sA (sC (sA (sC (sA (sA hC))))))))) (pCons (sA hC) (pApp (sA hA') (pApp (sA hA') (pCons (sA hC) (pApp (sA hA') (pCons (sA (sC (sA (sA hC)))) pNil)))))))) (stepV_ok tt_ok rfl) rfl ?_
      refine k_end (by kernel_rfl) ?_
      refine wx_then (wc_cond rfl (fun hc => ?_) (fun hc => ?_))
      · replace h := ct hc h
        refine wc_seq (wc_region (wP rfl rfl (wl_nil (wx_then (wc_ret (wx_block_ret (wx_then_ret ?_)))))))
        obtain rfl := Option.some.inj h
        have h := hl29; clear hl29; try dsimp only [orE_l, orE_r] at h
        refine wx_then_ret (wx_block_ret (wx_then_ret ?_))
        obtain rfl := sI h
        exact wx_pf tt_ok (.inl rfl) Tryd.results5 (Res.tmp rfl Res.nil) rfl
      replace h := cf hc h
      refine wc_skip (wx_block (wx_then (wc_region (wP rfl rfl (wP (v := .int .i64 (IntKind.wrap .i64 (zy + (1 : Int)))) rfl rfl (wP rfl rfl (wl_nil ?_)))))))
      exact wx_round m29 (Nat.lt_succ_self m29) ⟨zm, zl, zz, (IntKind.wrap .i64 (zy + (1 : Int))), za.player, za.window, za.sure.Frame, za.sure.Seed, za.sure.Players, za.sure.Shots, za.sure.Score, za.own, ze.first_, ze.l, ze.last, zi.size, zi.places, zbm, zbq, zbo, zbk, zbn, zbr, zbp, zbl, zbt, zbv, zbu, zbs, zbb, zba, h, zac, zae, zad, zaf, zag, zah, zaz, zay, rfl, rfl⟩ (agree_cons rfl (agree_cons rfl (agree_cons rfl (agree_cons rfl (agree_cons rfl (agree_cons rfl (agree_cons rfl (agree_cons rfl (agree_cons rfl agree_nil))))))))) (pSub (pCons (sA (sC (sA (sA (sC (sA (sC (sA (sA (sC hC)))))))))) (pCons (sA hC) (pCons (sA (sA (sA hC))) (pCons (sA (sA (sA (sA hC)))) (pApp (sA hA') (pApp (sA hA') (pApp (sA hA') (pApp (sA hA') pNil)))))))))
    replace h := cf hc h
    refine k_skip rfl rfl (pSub (pH (pH (pA (pA (pH (pA (pCons (sC (sA hC)) pNil)))))))) rfl ?_
    refine k_skip rfl rfl (pSub (pH (pH (pA (pA (pH (pA (pCons (sC (sA hC)) pNil)))))))) rfl ?_
    refine k_skip rfl rfl (pSub (pH (pH (pA (pA (pH (pA (pCons (sC (sA hC)) pNil)))))))) rfl ?_
    refine k_skip rfl rfl (pSub (pH (pH (pA (pA (pH (pA (pCons (sC (sA hC)) pNil)))))))) rfl ?_
    refine k_skip rfl rfl (pSub (pH (pH (pA (pA (pH (pA (pCons (sC (sA hC)) pNil)))))))) rfl ?_
    refine k_skip rfl rfl (pSub (pH (pH (pA (pA (pH (pA (pCons (sC (sA hC)) pNil)))))))) rfl ?_
    refine k_skip rfl rfl (pSub (pH (pH (pA (pA (pH (pA (pCons (sC (sA hC)) pNil)))))))) rfl ?_
    refine k_skip rfl rfl (pSub (pH (pH (pA (pA (pH (pA (pCons (sC (sA hC)) pNil)))))))) rfl ?_
    refine k_skip rfl rfl (pSub (pH (pH (pA (pA (pH (pA (pCons (sC (sA hC)) pNil)))))))) rfl ?_
    simp only [Option.some.injEq, Prod.mk.injEq] at h
    obtain ⟨rfl, rfl, rfl⟩ := h
    have h := hg188; clear hg188; try dsimp only at h
    refine k_val (v := .bool false) rfl rfl rfl (pSub (pH (pH (pA (pA (pH (pA (pCons (sC (sA hC)) pNil)))))))) (stepV_ok tt_ok rfl) rfl ?_
    refine k_end (by kernel_rfl) ?_
    refine wx_then ?_
    replace h := cf rfl h
    refine wc_cond_false rfl ?_
    refine wc_skip (wx_block (wx_then (wc_region (wP rfl rfl (wP (v := .int .i64 (IntKind.wrap .i64 (zy + (1 : Int)))) rfl rfl (wP rfl rfl (wl_nil ?_)))))))
    exact wx_round m29 (Nat.lt_succ_self m29) ⟨zm, zl, zz, (IntKind.wrap .i64 (zy + (1 : Int))), za.player, za.window, za.sure.Frame, za.sure.Seed, za.sure.Players, za.sure.Shots, za.sure.Score, za.own, ze.first_, ze.l, ze.last, zj.size, zj.places, zbm, zbq, zbo, zbk, zbn, zbr, zbp, zbl, zbt, zbv, zbu, zbs, zcm, zcl, h, zac, zae, zad, zaf, zag, zah, zaq, zap, rfl, rfl⟩ (agree_cons rfl (agree_cons rfl (agree_cons rfl (agree_cons rfl (agree_cons rfl (agree_cons rfl (agree_cons rfl (agree_cons rfl (agree_cons rfl agree_nil))))))))) (pSub (pCons (sC (sC (sA (sA (sC (sA (sC (sA hC)))))))) (pCons (sC hC) (pCons (sC (sA (sA hC))) (pCons (sC (sA (sA (sA hC)))) (pApp (sC hA') (pApp (sC hA') (pApp (sC hA') (pApp (sC hA') pNil)))))))))
  replace h := cf hc h
  refine wc_exit (wx_then_exit ?_)
  obtain rfl := Option.some.inj h
  have h := hl29; clear hl29; try dsimp only [orE_l, orE_r] at h
  refine wx_then_exit (wx_block_exit (wx_then (wc_seq ?_)))
  refine wc_k2 (Ls := (⟨b2, [.int .u64 p0.Seed, .int .u8 p0.Player, .int .u8 p0.Window, .slice p0a0 p0n0 p0c0, .slice p0a1 p0n1 p0c1], 25, (0, 0)⟩ :: (⟨zv, (.int .u8 zr :: .int .i64 zs :: .int .u64 zn :: .int .u64 zo :: pl14 zp [.slice zak zai zal, .int .u16 zk.1, .int .u16 zk.2, .slice zat zam zau, .pointer (some ⟨zav, 0, none⟩), .pointer (some ⟨zbw, 0, none⟩)]), 55, (0, 0)⟩ :: (⟨zav, [.int .u64 zaa, .slice zbi zbe zbj, .int .u8 zab], 94, (0, 0)⟩ :: (zaj ++ (zas ++ (zbh ++ []))))))) [1, 4, 7, 8, 9, 12, 17, 18, 21] [] [0, 1, 0, 4, 15, 0, 0, 127, 255, 511, 1023, 2047, 4095, 2047, 2047, 2047, 2047, 131071, 262143, 524287, 1048575, 2097151, 4194303, 8388607] [0, 2, 3, 5, 6, 1, 4, 7, 8, 9, 10, 11, 13, 14, 15, 16, 12, 17, 18, 19, 20, 21, 22, 23] (by kernel_rfl) (by kernel_rfl) (by kernel_rfl) ?_
  refine k_val rfl rfl rfl (pSub (pH (pH (pH (pApp (sC hA') (pApp (sC hA') (pApp (sC hA') pNil))))))) (stepV_ok tt_ok rfl) rfl ?_
  refine k_val (v := .pointer (some ⟨b2, 0, none⟩)) rfl rfl rfl (pSub (pH (pH (pH (pApp (sC hA') (pApp (sC hA') (pApp (sC hA') pNil))))))) (stepV_ok tt_ok rfl) rfl ?_
  refine k_val (v := .int .u64 p0.Seed) rfl rfl rfl (pSub (pH (pH (pH (pApp (sC hA') (pApp (sC hA') (pApp (sC hA') pNil))))))) (val_load tt_ok rfl (mH) rfl) rfl ?_
  refine k_val (v := .agg #[.int .u64 p0.Seed, .int .u8 p0.Player, .int .u8 p0.Window, .slice p0a0 p0n0 p0c0, .slice p0a1 p0n1 p0c1]) rfl rfl rfl (pSub (pH (pH (pH (pApp (sC hA') (pApp (sC hA') (pApp (sC hA') pNil))))))) (val_load tt_ok rfl (mH) rfl) rfl ?_
  refine k_val rfl rfl rfl (pSub (pH (pH (pH (pApp (sC hA') (pApp (sC hA') (pApp (sC hA') pNil))))))) (stepV_ok tt_ok rfl) rfl ?_
  replace h := bsome h; obtain ⟨v190, x190, h⟩ := h
  refine k_cs rfl rfl rfl Tryd.call15 rfl rfl rfl (s_sp (k_rollback_Engine_State (p0 := (T_rollback_Engine.mk zr zs (T_api_State.mk zn zo zp zb zk) zc)) (p0_4 := (T_queue_Queue.mk zaa zd zab)) (p0_5 := (T_ring_Ring.mk zar zh)) zt zu zw zx zan zao zax zaw x190) (pCons (sC hC) (pApp (sC (sC (sC hA'))) (pApp (sC (sC (sC hA'))) (pCons (sC hC) (pApp (sC (sC hA')) (pCons (sC hC) (pApp (sC hA') pNil))))))) (fun _ _ => trivial)) rfl (.inr (by rintro _ _ ⟨_, ⟨_, _, _, _, _, _, rfl, rfl⟩, rfl⟩; exact ⟨_, (pCons (sC (sA (sA (sC (sA (sC (sA (sA hC)))))))) (pH (pCons (sA (sA hC)) (pA (pA (pA pNil))))))⟩)) ?_
  rintro _ _ ⟨_, ⟨v190a0, v190n0, v190c0, v190B0, v190N0, v190V0, rfl, rfl⟩, rfl⟩
  replace h := bsome h; obtain ⟨v193, x193, h⟩ := h
  refine k_cs rfl rfl rfl Tryd.call8 rfl rfl rfl (s_sp (k_state_Start x193) pNil (fun _ _ => trivial)) rfl (.inr (by rintro _ _ ⟨_, ⟨_, _, _, _, _, _, rfl, rfl⟩, rfl⟩; exact ⟨_, (pCons (sA (sC (sA (sA (sC (sA (sC (sA (sA hC))))))))) (pCons (sA hC) (pCons (sA (sA (sA hC))) (pApp (sA hA') (pApp (sA hA') (pApp (sA hA') pNil))))))⟩)) ?_
  rintro _ _ ⟨_, ⟨v193a0, v193n0, v193c0, v193B0, v193N0, v193V0, rfl, rfl⟩, rfl⟩
  replace h := bsome h; obtain ⟨v196, x196, h⟩ := h
  refine k_cs rfl rfl rfl Tryd.call24 rfl rfl rfl (s_sp (k_hindcastlaw26_Game_pairs (p0 := p0) p0N0 p0H0 p0N1 p0H1 x196) pNil (fun w hI => ⟨(Rds.call p0S0 pNil rsub_nil) w hI, (Rds.call p0S1 pNil rsub_nil) w hI⟩)) rfl (.inr (by rintro _ _ ⟨_, ⟨_, _, _, _, _, _, rfl, rfl⟩, rfl⟩; exact ⟨_, (pCons (sA (sA (sC (sA (sA (sC (sA (sC (sA (sA hC)))))))))) (pCons (sA (sA hC)) (pCons (sA (sA (sA (sA hC)))) (pApp (sA (sA hA')) (pApp (sA (sA hA')) (pApp (sA (sA hA')) pNil))))))⟩)) ?_
  rintro _ _ ⟨_, ⟨v196a0, v196n0, v196c0, v196B0, v196N0, v196V0, rfl, rfl⟩, rfl⟩
  replace h := bsome h; obtain ⟨v197, x197, h⟩ := h
  refine k_cs rfl rfl rfl Tryd.call23 rfl rfl rfl (s_sp (k_fold_Fold (p0 := v193) (p1 := v196) v193N0 (vec_cap v193V0) v196N0 (vec_cap v196V0) x197) pNil (fun w hI => ⟨(Rds.call (Rds.of_vec v193V0) pNil ⟨_, (sA hA')⟩) w hI, (Rds.call (Rds.of_vec v196V0) pNil ⟨_, hA'⟩) w hI, (Rds.call G0S pNil rsub_nil) w hI, (Rds.call G1S pNil rsub_nil) w hI⟩)) rfl (.inr (by rintro _ _ ⟨_, ⟨_, _, _, _, _, _, rfl, rfl⟩, rfl⟩; exact ⟨_, (pCons (sA (sA (sA (sC (sA (sA (sC (sA (sC (sA (sA hC))))))))))) (pCons (sA (sA (sA hC))) (pCons (sA (sA (sA (sA (sA hC))))) (pApp (sA (sA (sA hA'))) (pApp (sA (sA (sA hA'))) (pApp (sA (sA (sA hA'))) pNil))))))⟩)) ?_
  rintro _ _ ⟨_, ⟨v197a0, v197n0, v197c0, v197B0, v197N0, v197V0, rfl, rfl⟩, rfl⟩
  replace h := bsome h; obtain ⟨v198, x198, h⟩ := h
  refine k_cq rfl rfl rfl Tryd.call14 rfl rfl rfl (q_pf (k_state_Same (p0 := v190) (p1 := v197) v190N0 (vec_cap v190V0) v197N0 (vec_cap v197V0) x198) (fun w hI => ⟨(Rds.call (Rds.of_vec v190V0) pNil ⟨_, (sA (sA (sA (sC (sA (sA (sC (sA (sC (sA hA'))))))))))⟩) w hI, (Rds.call (Rds.of_vec v197V0) pNil ⟨_, hA'⟩) w hI⟩)) rfl (pSub (pCons (sA (sA (sA (sC (sA (sA (sC (sA (sC (sA (sA hC))))))))))) (pCons (sA (sA (sA hC))) (pCons (sA (sA (sA (sA (sA hC))))) (pApp (sA (sA (sA hA'))) (pApp (sA (sA (sA hA'))) (pApp (sA (sA (sA hA'))) pNil))))))) ?_
  refine k_val rfl rfl rfl (pSub (pCons (sA (sA (sA (sC (sA (sA (sC (sA (sC (sA (sA hC))))))))))) (pCons (sA (sA (sA hC))) (pCons (sA (sA (sA (sA (sA hC))))) (pApp (sA (sA (sA hA'))) (pApp (sA (sA (sA hA'))) (pApp (sA (sA (sA hA'))) pNil))))))) (stepV_ok tt_ok rfl) rfl ?_
  replace h := bsome h; obtain ⟨⟨v208, zcy, zcz⟩, h, hg208⟩ := h
  refine k_split (t := 199) rfl (fun hc => ?_) (fun hc => ?_)
  · replace h := ct hc h
    refine k_val rfl rfl rfl (pSub (pCons (sA (sA (sA (sC (sA (sA (sC (sA (sC (sA (sA hC))))))))))) (pCons (sA (sA (sA hC))) (pCons (sA (sA (sA (sA (sA hC))))) (pApp (sA (sA (sA hA'))) (pApp (sA (sA (sA hA'))) (pApp (sA (sA (sA hA'))) pNil))))))) (stepV_ok tt_ok rfl) rfl ?_
    refine k_val (v := .agg #[.int .u64 p0.Seed, .int .u8 p0.Player, .int .u8 p0.Window, .slice p0a0 p0n0 p0c0, .slice p0a1 p0n1 p0c1]) rfl rfl rfl (pSub (pCons (sA (sA (sA (sC (sA (sA (sC (sA (sC (sA (sA hC))))))))))) (pCons (sA (sA (sA hC))) (pCons (sA (sA (sA (sA (sA hC))))) (pApp (sA (sA (sA hA'))) (pApp (sA (sA (sA hA'))) (pApp (sA (sA (sA hA'))) pNil))))))) (val_load tt_ok rfl (mH) rfl) rfl ?_
    refine k_val rfl rfl rfl (pSub (pCons (sA (sA (sA (sC (sA (sA (sC (sA (sC (sA (sA hC))))))))))) (pCons (sA (sA (sA hC))) (pCons (sA (sA (sA (sA (sA hC))))) (pApp (sA (sA (sA hA'))) (pApp (sA (sA (sA hA'))) (pApp (sA (sA (sA hA'))) pNil))))))) (stepV_ok tt_ok rfl) rfl ?_
    refine k_val rfl rfl rfl (pSub (pCons (sA (sA (sA (sC (sA (sA (sC (sA (sC (sA (sA hC))))))))))) (pCons (sA (sA (sA hC))) (pCons (sA (sA (sA (sA (sA hC))))) (pApp (sA (sA (sA hA'))) (pApp (sA (sA (sA hA'))) (pApp (sA (sA (sA hA'))) pNil))))))) (stepV_ok tt_ok rfl) rfl ?_
    refine k_val rfl rfl rfl (pSub (pCons (sA (sA (sA (sC (sA (sA (sC (sA (sC (sA (sA hC))))))))))) (pCons (sA (sA (sA hC))) (pCons (sA (sA (sA (sA (sA hC))))) (pApp (sA (sA (sA hA'))) (pApp (sA (sA (sA hA'))) (pApp (sA (sA (sA hA'))) pNil))))))) (stepV_ok tt_ok rfl) rfl ?_
    replace h := bsome h; obtain ⟨⟨zcx, v201⟩, x201, h⟩ := h; try dsimp only at h
    refine k_cs rfl rfl rfl Tryd.call11 rfl rfl rfl (s_sp (k_rollback_Engine_Shown (p0 := (T_rollback_Engine.mk zr zs (T_api_State.mk zn zo zp zb zk) zc)) (p0_4 := (T_queue_Queue.mk zaa zd zab)) (p0_5 := (T_ring_Ring.mk zar zh)) zt zu zw zx zan zao zax zaw x201) (pCons (sA (sA (sA hC))) (pApp (sA (sA (sA hA'))) (pApp (sA (sA (sA hA'))) (pCons (sA (sA (sA hC))) (pApp (sA (sA (sA hA'))) (pCons (sA (sA (sA hC))) (pApp (sA (sA (sA hA'))) pNil))))))) (fun w hI => ⟨(Rds.call G0S (pCons (sA (sA (sA hC))) (pApp (sA (sA (sA hA'))) (pApp (sA (sA (sA hA'))) (pCons (sA (sA (sA hC))) (pApp (sA (sA (sA hA'))) (pCons (sA (sA (sA hC))) (pApp (sA (sA (sA hA'))) pNil))))))) rsub_nil) w hI, (Rds.call G1S (pCons (sA (sA (sA hC))) (pApp (sA (sA (sA hA'))) (pApp (sA (sA (sA hA'))) (pCons (sA (sA (sA hC))) (pApp (sA (sA (sA hA'))) (pCons (sA (sA (sA hC))) (pApp (sA (sA (sA hA'))) pNil))))))) rsub_nil) w hI⟩)) rfl (.inr (by rintro _ _ ⟨_, ⟨_, _, _, _, _, _, _, _, _, _, rfl, rfl⟩, rfl⟩; exact ⟨_, (pCons (sC (sA (sA (sC (sA (sC (sA (sA (sA (sA (sA (sA hC)))))))))))) (pH (pCons (sA (sA hC)) (pA (pA (pA pNil))))))⟩)) ?_
    rintro _ _ ⟨_, ⟨zdf, zde, v201a0, v201n0, v201c0, v201B0, zdd, zdc, v201N0, v201V0, rfl, rfl⟩, rfl⟩
    replace h := bsome h; obtain ⟨v206, x206, h⟩ := h
    refine k_cs rfl rfl rfl Tryd.call22 rfl rfl rfl (s_sp (k_hindcastlaw26_Game_shown (p0 := p0) p0N0 p0H0 p0N1 p0H1 x206) pNil (fun w hI => ⟨(Rds.call p0S0 pNil rsub_nil) w hI, (Rds.call p0S1 pNil rsub_nil) w hI, (Rds.call G0S pNil rsub_nil) w hI, (Rds.call G1S pNil rsub_nil) w hI⟩)) rfl (.inr (by rintro _ _ ⟨_, ⟨_, _, _, _, _, _, rfl, rfl⟩, rfl⟩; exact ⟨_, (pCons (sA (sC (sA (sA (sC (sA (sC (sA (sA (sA (sA (sA (sA hC))))))))))))) (pCons (sA hC) (pCons (sA (sA (sA hC))) (pApp (sA hA') (pApp (sA hA') (pApp (sA hA') pNil))))))⟩)) ?_
    rintro _ _ ⟨_, ⟨v206a0, v206n0, v206c0, v206B0, v206N0, v206V0, rfl, rfl⟩, rfl⟩
    replace h := bsome h; obtain ⟨v207, x207, h⟩ := h
    refine k_cq rfl rfl rfl Tryd.call14 rfl rfl rfl (q_pf (k_state_Same (p0 := v201) (p1 := v206) v201N0 (vec_cap v201V0) v206N0 (vec_cap v206V0) x207) (fun w hI => ⟨(Rds.call (Rds.of_vec v201V0) pNil ⟨_, (sA (sC (sA (sA (sC (sA (sC (sA hA'))))))))⟩) w hI, (Rds.call (Rds.of_vec v206V0) pNil ⟨_, hA'⟩) w hI⟩)) rfl (pSub (pCons (sA (sC (sA (sA (sC (sA (sC (sA (sA (sA (sA (sA (sA hC))))))))))))) (pCons (sA hC) (pCons (sA (sA (sA hC))) (pApp (sA hA') (pApp (sA hA') (pApp (sA hA') pNil))))))) ?_
    simp only [Option.some.injEq, Prod.mk.injEq] at h
    obtain ⟨rfl, rfl, rfl⟩ := h
    have h := hg208; clear hg208; try dsimp only at h
    refine k_val (v := .bool v207) rfl rfl rfl (pSub (pCons (sA (sC (sA (sA (sC (sA (sC (sA (sA (sA (sA (sA (sA hC))))))))))))) (pCons (sA hC) (pCons (sA (sA (sA hC))) (pApp (sA hA') (pApp (sA hA') (pApp (sA hA') pNil))))))) (stepV_ok tt_ok rfl) rfl ?_
    refine k_val rfl rfl rfl (pSub (pCons (sA (sC (sA (sA (sC (sA (sC (sA (sA (sA (sA (sA (sA hC))))))))))))) (pCons (sA hC) (pCons (sA (sA (sA hC))) (pApp (sA hA') (pApp (sA hA') (pApp (sA hA') pNil))))))) (stepV_ok tt_ok rfl) rfl ?_
    replace h := bsome h; obtain ⟨v211, h, hg211⟩ := h
    refine k_split (t := 209) rfl (fun hc => ?_) (fun hc => ?_)
    · replace h := ct hc h
      replace h := bsome h; obtain ⟨v210, x210, h⟩ := h
      refine k_cq rfl rfl rfl Tryd.call6 rfl rfl rfl (q_pf (k_hindcastlaw26_works x210) (fun w hI => ⟨(Rds.call G0S pNil rsub_nil) w hI, (Rds.call G1S pNil rsub_nil) w hI⟩)) rfl (pSub (pCons (sA (sC (sA (sA (sC (sA (sC (sA (sA (sA (sA (sA (sA hC))))))))))))) (pCons (sA hC) (pCons (sA (sA (sA hC))) (pApp (sA hA') (pApp (sA hA') (pApp (sA hA') pNil))))))) ?_
      obtain rfl := sI h
      have h := hg211; clear hg211
      refine k_val (v := .bool v210) rfl rfl rfl (pSub (pCons (sA (sC (sA (sA (sC (sA (sC (sA (sA (sA (sA (sA (sA hC))))))))))))) (pCons (sA hC) (pCons (sA (sA (sA hC))) (pApp (sA hA') (pApp (sA hA') (pApp (sA hA') pNil))))))) (stepV_ok tt_ok rfl) rfl ?_
      refine k_val rfl rfl rfl (pSub (pCons (sA (sC (sA (sA (sC (sA (sC (sA (sA (sA (sA (sA (sA hC))))))))))))) (pCons (sA hC) (pCons (sA (sA (sA hC))) (pApp (sA hA') (pApp (sA hA') (pApp (sA hA') pNil))))))) (stepV_ok tt_ok rfl) rfl ?_
      refine k_end (by kernel_rfl) ?_
      refine wx_then (wc_ret ?_)
      obtain rfl := sI h
      exact wx_pf tt_ok (.inl rfl) Tryd.results5 (Res.tmp rfl Res.nil) rfl
    replace h := cf hc h
    refine k_skip rfl rfl (pSub (pCons (sA (sC (sA (sA (sC (sA (sC (sA (sA (sA (sA (sA (sA hC))))))))))))) (pCons (sA hC) (pCons (sA (sA (sA hC))) (pApp (sA hA') (pApp (sA hA') (pApp (sA hA') pNil))))))) rfl ?_
    obtain rfl := sI h
    have h := hg211; clear hg211
    refine k_val (v := .bool false) rfl rfl rfl (pSub (pCons (sA (sC (sA (sA (sC (sA (sC (sA (sA (sA (sA (sA (sA hC))))))))))))) (pCons (sA hC) (pCons (sA (sA (sA hC))) (pApp (sA hA') (pApp (sA hA') (pApp (sA hA') pNil))))))) (stepV_ok tt_ok rfl) rfl ?_
    refine k_val rfl rfl rfl (pSub (pCons (sA (sC (sA (sA (sC (sA (sC (sA (sA (sA (sA (sA (sA hC))))))))))))) (pCons (sA hC) (pCons (sA (sA (sA hC))) (pApp (sA hA') (pApp (sA hA') (pApp (sA hA') pNil))))))) (stepV_ok tt_ok rfl) rfl ?_
    refine k_end (by kernel_rfl) ?_
    refine wx_then (wc_ret ?_)
    obtain rfl := sI h
    exact wx_pf tt_ok (.inl rfl) Tryd.results5 (Res.tmp rfl Res.nil) rfl
  replace h := cf hc h
  refine k_skip rfl rfl (pSub (pCons (sA (sA (sA (sC (sA (sA (sC (sA (sC (sA (sA hC))))))))))) (pCons (sA (sA (sA hC))) (pCons (sA (sA (sA (sA (sA hC))))) (pApp (sA (sA (sA hA'))) (pApp (sA (sA (sA hA'))) (pApp (sA (sA (sA hA'))) pNil))))))) rfl ?_
  refine k_skip rfl rfl (pSub (pCons (sA (sA (sA (sC (sA (sA (sC (sA (sC (sA (sA hC))))))))))) (pCons (sA (sA (sA hC))) (pCons (sA (sA (sA (sA (sA hC))))) (pApp (sA (sA (sA hA'))) (pApp (sA (sA (sA hA'))) (pApp (sA (sA (sA hA'))) pNil))))))) rfl ?_
  refine k_skip rfl rfl (pSub (pCons (sA (sA (sA (sC (sA (sA (sC (sA (sC (sA (sA hC))))))))))) (pCons (sA (sA (sA hC))) (pCons (sA (sA (sA (sA (sA hC))))) (pApp (sA (sA (sA hA'))) (pApp (sA (sA (sA hA'))) (pApp (sA (sA (sA hA'))) pNil))))))) rfl ?_
  refine k_skip rfl rfl (pSub (pCons (sA (sA (sA (sC (sA (sA (sC (sA (sC (sA (sA hC))))))))))) (pCons (sA (sA (sA hC))) (pCons (sA (sA (sA (sA (sA hC))))) (pApp (sA (sA (sA hA'))) (pApp (sA (sA (sA hA'))) (pApp (sA (sA (sA hA'))) pNil))))))) rfl ?_
  refine k_skip rfl rfl (pSub (pCons (sA (sA (sA (sC (sA (sA (sC (sA (sC (sA (sA hC))))))))))) (pCons (sA (sA (sA hC))) (pCons (sA (sA (sA (sA (sA hC))))) (pApp (sA (sA (sA hA'))) (pApp (sA (sA (sA hA'))) (pApp (sA (sA (sA hA'))) pNil))))))) rfl ?_
  refine k_skip rfl rfl (pSub (pCons (sA (sA (sA (sC (sA (sA (sC (sA (sC (sA (sA hC))))))))))) (pCons (sA (sA (sA hC))) (pCons (sA (sA (sA (sA (sA hC))))) (pApp (sA (sA (sA hA'))) (pApp (sA (sA (sA hA'))) (pApp (sA (sA (sA hA'))) pNil))))))) rfl ?_
  refine k_skip rfl rfl (pSub (pCons (sA (sA (sA (sC (sA (sA (sC (sA (sC (sA (sA hC))))))))))) (pCons (sA (sA (sA hC))) (pCons (sA (sA (sA (sA (sA hC))))) (pApp (sA (sA (sA hA'))) (pApp (sA (sA (sA hA'))) (pApp (sA (sA (sA hA'))) pNil))))))) rfl ?_
  refine k_skip rfl rfl (pSub (pCons (sA (sA (sA (sC (sA (sA (sC (sA (sC (sA (sA hC))))))))))) (pCons (sA (sA (sA hC))) (pCons (sA (sA (sA (sA (sA hC))))) (pApp (sA (sA (sA hA'))) (pApp (sA (sA (sA hA'))) (pApp (sA (sA (sA hA'))) pNil))))))) rfl ?_
  simp only [Option.some.injEq, Prod.mk.injEq] at h
  obtain ⟨rfl, rfl, rfl⟩ := h
  have h := hg208; clear hg208; try dsimp only at h
  refine k_val (v := .bool false) rfl rfl rfl (pSub (pCons (sA (sA (sA (sC (sA (sA (sC (sA (sC (sA (sA hC))))))))))) (pCons (sA (sA (sA hC))) (pCons (sA (sA (sA (sA (sA hC))))) (pApp (sA (sA (sA hA'))) (pApp (sA (sA (sA hA'))) (pApp (sA (sA (sA hA'))) pNil))))))) (stepV_ok tt_ok rfl) rfl ?_
  refine k_val rfl rfl rfl (pSub (pCons (sA (sA (sA (sC (sA (sA (sC (sA (sC (sA (sA hC))))))))))) (pCons (sA (sA (sA hC))) (pCons (sA (sA (sA (sA (sA hC))))) (pApp (sA (sA (sA hA'))) (pApp (sA (sA (sA hA'))) (pApp (sA (sA (sA hA'))) pNil))))))) (stepV_ok tt_ok rfl) rfl ?_
  replace h := bsome h; obtain ⟨v211, h, hg211⟩ := h
  replace h := cf rfl h
  refine k_skip rfl rfl (pSub (pCons (sA (sA (sA (sC (sA (sA (sC (sA (sC (sA (sA hC))))))))))) (pCons (sA (sA (sA hC))) (pCons (sA (sA (sA (sA (sA hC))))) (pApp (sA (sA (sA hA'))) (pApp (sA (sA (sA hA'))) (pApp (sA (sA (sA hA'))) pNil))))))) rfl ?_
  obtain rfl := sI h
  have h := hg211; clear hg211
  refine k_val (v := .bool false) rfl rfl rfl (pSub (pCons (sA (sA (sA (sC (sA (sA (sC (sA (sC (sA (sA hC))))))))))) (pCons (sA (sA (sA hC))) (pCons (sA (sA (sA (sA (sA hC))))) (pApp (sA (sA (sA hA'))) (pApp (sA (sA (sA hA'))) (pApp (sA (sA (sA hA'))) pNil))))))) (stepV_ok tt_ok rfl) rfl ?_
  refine k_val rfl rfl rfl (pSub (pCons (sA (sA (sA (sC (sA (sA (sC (sA (sC (sA (sA hC))))))))))) (pCons (sA (sA (sA hC))) (pCons (sA (sA (sA (sA (sA hC))))) (pApp (sA (sA (sA hA'))) (pApp (sA (sA (sA hA'))) (pApp (sA (sA (sA hA'))) pNil))))))) (stepV_ok tt_ok rfl) rfl ?_
  refine k_end (by kernel_rfl) ?_
  refine wx_then (wc_ret ?_)
  obtain rfl := sI h
  exact wx_pf tt_ok (.inl rfl) Tryd.results5 (Res.tmp rfl Res.nil) rfl

end Go.Proofs.YtkekgagekgadmaaDoor
