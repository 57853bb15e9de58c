/-
  Each function computes what its model says. Printed by a program of this claim's own.
-/
import Derived.Test.YtbbkblolaficdaaDoorTab
import Derived.Test.YtbbkblolaficdaaDoorMod
import Derived.Test.YtbbkblolaficdaaDoorWalk3
namespace Go.Proofs.YtbbkblolaficdaaDoor
open Go.Proofs.YtbbkblolaficdaaDoor.Eng
set_option linter.unusedVariables false
set_option linter.unusedSimpArgs false
set_option maxHeartbeats 4000000
set_option maxRecDepth 20000

theorem k_hindcastlaw25_one {F : Nat} {p0 : T_ring_Ring} {p0b p0t : Nat} {p0g0 : List (T_ring_place × G)} {p0P0 : List Blk} {p1 : T_hindcastref25_Ring} {p1b p1t : Nat} {p1a0 : Option Addr} {p1n0 : Nat} {p1c0 : Nat} {p1B0 : List Blk} {p1g0 : List (T_api_State × G)} {p1P0 : List Blk} {p2 : T_hindcastlaw25_Act} {p2a0 : Option Addr} {p2n0 p2c0 : Nat} {r0 : T_ring_Ring} {r1 : T_hindcastref25_Ring} {r2 : Bool} (p0G0 : p0.places.1 = unG p0g0) (p0A0 : AllP sh_T_ring_place c_T_api_Shot p0P0 p0g0) (p1N0 : p1n0 = p1.L.length) (p1V0 : Own 30 19 p1a0 p1n0 p1c0 (flat cg_T_api_State p1g0) p1B0) (p1G0 : p1.L = unG p1g0) (p1A0 : AllP sh_T_api_State c_T_api_Shot p1P0 p1g0) (p2N0 : p2n0 = p2.S.Shots.length) (p2H0 : p2n0 ≤ p2c0) (h : m_hindcastlaw25_one F p0 p1 p2 = some (r0, r1, r2)) :
    SpD Tryd.prog 18 [.pointer (some ⟨p0b, 0, none⟩), .pointer (some ⟨p1b, 0, none⟩), .agg #[.int .u8 p2.What, .int .u64 p2.S.Frame, .int .u64 p2.S.Seed, .int .i32 p2.S.Players.1.X, .int .i32 p2.S.Players.1.Y, .int .i32 p2.S.Players.1.VX, .int .i32 p2.S.Players.1.VY, .int .u8 p2.S.Players.1.Health, .int .u8 p2.S.Players.1.Cool, .int .u8 p2.S.Players.1.Face, .int .i32 p2.S.Players.2.X, .int .i32 p2.S.Players.2.Y, .int .i32 p2.S.Players.2.VX, .int .i32 p2.S.Players.2.VY, .int .u8 p2.S.Players.2.Health, .int .u8 p2.S.Players.2.Cool, .int .u8 p2.S.Players.2.Face, .slice p2a0 p2n0 p2c0, .int .u16 p2.S.Score.1, .int .u16 p2.S.Score.2, .int .u64 p2.F]] (⟨p0b, ([.int .i64 p0.size] ++ flat cg_T_ring_place p0g0), p0t, (0, 0)⟩ :: (p0P0 ++ (⟨p1b, [.int .i64 p1.Size, .slice p1a0 p1n0 p1c0], p1t, (0, 0)⟩ :: (p1B0 ++ (p1P0 ++ []))))) (fun w => Rds w (ids (⟨p0b, ([.int .i64 p0.size] ++ flat cg_T_ring_place p0g0), p0t, (0, 0)⟩ :: (p0P0 ++ (⟨p1b, [.int .i64 p1.Size, .slice p1a0 p1n0 p1c0], p1t, (0, 0)⟩ :: (p1B0 ++ (p1P0 ++ [])))))) [] p2a0 (flat c_T_api_Shot p2.S.Shots) ∧ Rds w (ids (⟨p0b, ([.int .i64 p0.size] ++ flat cg_T_ring_place p0g0), p0t, (0, 0)⟩ :: (p0P0 ++ (⟨p1b, [.int .i64 p1.Size, .slice p1a0 p1n0 p1c0], p1t, (0, 0)⟩ :: (p1B0 ++ (p1P0 ++ [])))))) [] (some ⟨0, 0, none⟩) (flat (fun _ : Unit => gl_state_playerBounds) [()]) ∧ Rds w (ids (⟨p0b, ([.int .i64 p0.size] ++ flat cg_T_ring_place p0g0), p0t, (0, 0)⟩ :: (p0P0 ++ (⟨p1b, [.int .i64 p1.Size, .slice p1a0 p1n0 p1c0], p1t, (0, 0)⟩ :: (p1B0 ++ (p1P0 ++ [])))))) [] (some ⟨1, 0, none⟩) (flat (fun _ : Unit => gl_state_shotBounds) [()])) (fun v D => ∃ (r0g0 : List (T_ring_place × G)) (r0P0 : List Blk) (r1a0 : Option Addr) (r1n0 : Nat) (r1c0 : Nat) (r1B0 : List Blk) (r1g0 : List (T_api_State × G)) (r1P0 : List Blk), r0.places.1 = unG r0g0 ∧ AllP sh_T_ring_place c_T_api_Shot r0P0 r0g0 ∧ r1n0 = r1.L.length ∧ Own 30 19 r1a0 r1n0 r1c0 (flat cg_T_api_State r1g0) r1B0 ∧ r1.L = unG r1g0 ∧ AllP sh_T_api_State c_T_api_Shot r1P0 r1g0 ∧ v = .bool r2 ∧ D = fun F => (⟨p0b, ([.int .i64 r0.size] ++ flat cg_T_ring_place r0g0), p0t, (0, 0)⟩ :: (r0P0 ++ (⟨p1b, [.int .i64 r1.Size, .slice r1a0 r1n0 r1c0], p1t, (0, 0)⟩ :: (r1B0 ++ (r1P0 ++ F)))))) := by
  unfold m_hindcastlaw25_one at h
  refine sp_of_wc Tryd.func18 rfl Tryd.ntmps18 rfl rfl (fun w0 hR => ?_)
  obtain ⟨p2S0, G0S, G1S⟩ := hR
  refine wc_seq (wc_region ?_)
  refine wl_box rfl rfl rfl (fun b5 => ?_)
  refine wl_pure tt_ok rfl rfl ?_
  refine wl_nil (wx_then (wc_seq (wc_seq (wc_region ?_))))
  refine wl_pure (v := .pointer (some ⟨b5, 0, none⟩)) tt_ok rfl rfl ?_
  refine wl_val (v := .int .u8 p2.What) (val_load tt_ok rfl (List.Mem.head _) rfl) rfl ?_
  refine wl_pure (v := .int .u8 (Int.tmod p2.What 4)) tt_ok rfl rfl ?_
  refine wl_nil (wx_then (wc_block (wc_seq (wc_region ?_))))
  refine wl_pure (v := .bool ((Int.tmod p2.What 4) == (0 : Int))) tt_ok rfl rfl ?_
  refine wl_pure tt_ok rfl rfl ?_
  refine wl_nil (wx_then ?_)
  refine wc_cond rfl (fun hc => ?_) (fun hc => ?_)
  · replace h := ct hc h
    refine wc_seq (wc_region ?_)
    refine wl_pure (v := .pointer (some ⟨b5, 1, none⟩)) tt_ok rfl rfl ?_
    refine wl_val (v := .agg #[.int .u64 p2.S.Frame, .int .u64 p2.S.Seed, .int .i32 p2.S.Players.1.X, .int .i32 p2.S.Players.1.Y, .int .i32 p2.S.Players.1.VX, .int .i32 p2.S.Players.1.VY, .int .u8 p2.S.Players.1.Health, .int .u8 p2.S.Players.1.Cool, .int .u8 p2.S.Players.1.Face, .int .i32 p2.S.Players.2.X, .int .i32 p2.S.Players.2.Y, .int .i32 p2.S.Players.2.VX, .int .i32 p2.S.Players.2.VY, .int .u8 p2.S.Players.2.Health, .int .u8 p2.S.Players.2.Cool, .int .u8 p2.S.Players.2.Face, .slice p2a0 p2n0 p2c0, .int .u16 p2.S.Score.1, .int .u16 p2.S.Score.2]) (val_load tt_ok rfl (List.Mem.head _) rfl) rfl ?_
    replace h := bsome h; obtain ⟨v26, x26, h⟩ := h
    refine wl_cs Tryd.call41 rfl rfl rfl (s_sp (k_hindcastref08_Copy (p0 := p2.S) p2N0 p2H0 x26) pNil (Rds.call p2S0 pNil rsub_nil)) rfl ?_
    rintro _ _ ⟨_, ⟨v26a0, v26n0, v26c0, v26B0, v26N0, v26V0, rfl, rfl⟩, rfl⟩
    refine wl_alloc tt_ok rfl rfl (fun b7 => ?_)
    apply wl_store tt_ok; rfl; exact Upd.here; rfl; rfl; rfl; rfl; rfl; rfl
    refine wl_nil (wx_then (wc_seq (wc_region ?_)))
    refine wl_pure tt_ok rfl rfl ?_
    refine wl_val (v := .agg #[.int .u64 v26.Frame, .int .u64 v26.Seed, .int .i32 v26.Players.1.X, .int .i32 v26.Players.1.Y, .int .i32 v26.Players.1.VX, .int .i32 v26.Players.1.VY, .int .u8 v26.Players.1.Health, .int .u8 v26.Players.1.Cool, .int .u8 v26.Players.1.Face, .int .i32 v26.Players.2.X, .int .i32 v26.Players.2.Y, .int .i32 v26.Players.2.VX, .int .i32 v26.Players.2.VY, .int .u8 v26.Players.2.Health, .int .u8 v26.Players.2.Cool, .int .u8 v26.Players.2.Face, .slice v26a0 v26n0 v26c0, .int .u16 v26.Score.1, .int .u16 v26.Score.2]) (val_load tt_ok rfl (List.Mem.head _) rfl) rfl ?_
    replace h := bsome h; obtain ⟨⟨o29_0, v29⟩, x29, h⟩ := h; try dsimp only at h
    refine wl_cs Tryd.call10 rfl rfl rfl (s_sp (k_ring_Ring_Put (p0 := p0) (p1 := v26) p0G0 p0A0 v26N0 (vec_cap v26V0) (own_Z v26V0) x29) (pCons (Sel.sc (Sel.sa (Sel.sc Sel.hc))) (pApp (Sel.sc (Sel.sa (Sel.sc Sel.ha))) pNil)) (fun w hI => ⟨(Rds.call (Rds.of_vec v26V0) (pCons (Sel.sc (Sel.sa (Sel.sc Sel.hc))) (pApp (Sel.sc (Sel.sa (Sel.sc Sel.ha))) pNil)) ⟨_, (Sel.sc Sel.ha)⟩) w hI, (Rds.call G0S (pCons (Sel.sc (Sel.sa (Sel.sc Sel.hc))) (pApp (Sel.sc (Sel.sa (Sel.sc Sel.ha))) pNil)) rsub_nil) w hI, (Rds.call G1S (pCons (Sel.sc (Sel.sa (Sel.sc Sel.hc))) (pApp (Sel.sc (Sel.sa (Sel.sc Sel.ha))) pNil)) rsub_nil) w hI⟩)) rfl ?_
    rintro _ _ ⟨_, ⟨o29_0g0, o29_0P0, o29_0G0, o29_0A0, rfl, rfl⟩, rfl⟩
    refine wl_pure tt_ok rfl rfl ?_
    refine wl_nil (wx_then (wc_seq (wc_region ?_)))
    refine wl_val (v := .agg #[.int .u64 v26.Frame, .int .u64 v26.Seed, .int .i32 v26.Players.1.X, .int .i32 v26.Players.1.Y, .int .i32 v26.Players.1.VX, .int .i32 v26.Players.1.VY, .int .u8 v26.Players.1.Health, .int .u8 v26.Players.1.Cool, .int .u8 v26.Players.1.Face, .int .i32 v26.Players.2.X, .int .i32 v26.Players.2.Y, .int .i32 v26.Players.2.VX, .int .i32 v26.Players.2.VY, .int .u8 v26.Players.2.Health, .int .u8 v26.Players.2.Cool, .int .u8 v26.Players.2.Face, .slice v26a0 v26n0 v26c0, .int .u16 v26.Score.1, .int .u16 v26.Score.2]) (val_load tt_ok rfl (List.Mem.tail _ (mR (List.Mem.head _))) rfl) rfl ?_
    replace h := bsome h; obtain ⟨_, x31, h⟩ := h
    refine wl_cs Tryd.call42 rfl rfl rfl (s_sp (k_hindcastlaw25_spoil_o0 (p0 := v26) v26N0 v26V0 x31) (pApp (Sel.sc (Sel.sa (Sel.sc Sel.ha))) pNil) (fun _ _ => trivial)) rfl ?_
    rintro _ _ ⟨_, ⟨rfl, rfl⟩, rfl⟩
    refine wl_nil (wx_then (wc_seq (wc_region ?_)))
    iterate 2 refine wl_pure tt_ok rfl rfl ?_
    refine wl_pure (v := .pointer (some ⟨b5, 1, none⟩)) tt_ok rfl rfl ?_
    refine wl_val (v := .agg #[.int .u64 p2.S.Frame, .int .u64 p2.S.Seed, .int .i32 p2.S.Players.1.X, .int .i32 p2.S.Players.1.Y, .int .i32 p2.S.Players.1.VX, .int .i32 p2.S.Players.1.VY, .int .u8 p2.S.Players.1.Health, .int .u8 p2.S.Players.1.Cool, .int .u8 p2.S.Players.1.Face, .int .i32 p2.S.Players.2.X, .int .i32 p2.S.Players.2.Y, .int .i32 p2.S.Players.2.VX, .int .i32 p2.S.Players.2.VY, .int .u8 p2.S.Players.2.Health, .int .u8 p2.S.Players.2.Cool, .int .u8 p2.S.Players.2.Face, .slice p2a0 p2n0 p2c0, .int .u16 p2.S.Score.1, .int .u16 p2.S.Score.2]) (val_load tt_ok rfl (List.Mem.tail _ (mR (List.Mem.tail _ (List.Mem.head _)))) rfl) rfl ?_
    replace h := bsome h; obtain ⟨⟨o36_0, v36⟩, x36, h⟩ := h; try dsimp only at h
    refine wl_cs Tryd.call43 rfl rfl rfl (s_sp (k_hindcastref25_Ring_Put (p0 := p1) (p1 := p2.S) p1N0 p1V0 p1G0 p1A0 p2N0 p2H0 x36) (pCons (Sel.sc (Sel.sa (Sel.sc (Sel.sc Sel.hc)))) (pApp (Sel.sc (Sel.sa (Sel.sc (Sel.sc Sel.ha)))) (pApp (Sel.sc (Sel.sa (Sel.sc (Sel.sc Sel.ha)))) pNil))) (Rds.call p2S0 (pCons (Sel.sc (Sel.sa (Sel.sc (Sel.sc Sel.hc)))) (pApp (Sel.sc (Sel.sa (Sel.sc (Sel.sc Sel.ha)))) (pApp (Sel.sc (Sel.sa (Sel.sc (Sel.sc Sel.ha)))) pNil))) rsub_nil)) rfl ?_
    rintro _ _ ⟨_, ⟨o36_0a0, o36_0n0, o36_0c0, o36_0B0, o36_0g0, o36_0P0, o36_0N0, o36_0V0, o36_0G0, o36_0A0, rfl, rfl⟩, rfl⟩
    refine wl_pure (v := .bool (v29 == v36)) tt_ok rfl rfl ?_
    refine wl_pure tt_ok rfl rfl ?_
    refine wl_nil (wx_then (wc_ret (wx_block_ret (wx_then_ret ?_))))
    simp only [Option.some.injEq, Prod.mk.injEq] at h
    obtain ⟨rfl, rfl, rfl⟩ := h
    exact wx_spD tt_ok (.inl rfl) Tryd.results18 (Res.tmp rfl Res.nil) ⟨o29_0g0, o29_0P0, o36_0a0, o36_0n0, o36_0c0, o36_0B0, o36_0g0, o36_0P0, o29_0G0, o29_0A0, o36_0N0, o36_0V0, o36_0G0, o36_0A0, rfl, rfl⟩ (fun F => by simp) (pSub (pCons (Sel.sc (Sel.sa (Sel.sa Sel.hc))) (pApp (Sel.sc (Sel.sa (Sel.sa Sel.ha))) (pCons Sel.hc (pApp Sel.ha (pApp Sel.ha pNil))))))
  replace h := cf hc h
  refine wc_seq (wc_region ?_)
  refine wl_pure (v := .bool ((Int.tmod p2.What 4) == (1 : Int))) tt_ok rfl rfl ?_
  refine wl_pure tt_ok rfl rfl ?_
  refine wl_nil (wx_then ?_)
  refine wc_cond rfl (fun hc => ?_) (fun hc => ?_)
  · replace h := ct hc h
    refine wc_seq (wc_region ?_)
    refine wl_pure tt_ok rfl rfl ?_
    refine wl_pure (v := .pointer (some ⟨b5, 20, none⟩)) tt_ok rfl rfl ?_
    refine wl_val (v := .int .u64 p2.F) (val_load tt_ok rfl (List.Mem.head _) rfl) rfl ?_
    replace h := bsome h; obtain ⟨⟨v44_0, v44_1⟩, x44, h⟩ := h; try dsimp only at h
    refine wl_cs Tryd.call11 rfl rfl rfl (s_sp (k_ring_Ring_At (p0 := p0) p0G0 p0A0 x44) (pCons (Sel.sc Sel.hc) (pApp (Sel.sc Sel.ha) pNil)) (fun _ _ => trivial)) rfl ?_
    rintro _ _ ⟨_, ⟨v44_0a0, v44_0n0, v44_0c0, v44_0B0, v44_0N0, v44_0V0, rfl, rfl⟩, rfl⟩
    iterate 3 refine wl_pure tt_ok rfl rfl ?_
    refine wl_alloc tt_ok rfl rfl (fun b9 => ?_)
    apply wl_store tt_ok; rfl; exact Upd.here; rfl; rfl; rfl; rfl; rfl; rfl
    refine wl_pure tt_ok rfl rfl ?_
    refine wl_nil (wx_then (wc_seq (wc_region ?_)))
    refine wl_pure tt_ok rfl rfl ?_
    refine wl_pure (v := .pointer (some ⟨b5, 20, none⟩)) tt_ok rfl rfl ?_
    refine wl_val (v := .int .u64 p2.F) (val_load tt_ok rfl (List.Mem.tail _ (List.Mem.tail _ (mR (mR (List.Mem.head _))))) rfl) rfl ?_
    refine wl_inl Tryd.call44 rfl rfl rfl Tryd.func44 rfl Tryd.ntmps44 rfl rfl rfl ?_
    refine wc_seq (wc_region ?_)
    refine wl_alloc tt_ok rfl rfl (fun b100004 => ?_)
    refine wl_pure tt_ok rfl rfl ?_
    refine wl_nil (wx_then (wc_seq (wc_seq (wc_region ?_))))
    refine wl_pure tt_ok rfl rfl ?_
    refine wl_nil (wx_then (wc_block ?_))
    replace h := bsome h; obtain ⟨o100007, h, hl100007⟩ := h
    refine wc_loop (fun m E L => ∃ (j100007_100006 : Int) (j100007_n100004_f0 : Int) (j100007_n100004_f1 : Int) (j100007_n100004_f2 : (T_api_Player × T_api_Player)) (j100007_n100004_f3 : (List T_api_Shot)) (j100007_n100004_f4 : (Int × Int)) (j100007_n100004_f3a0 : Option Addr) (j100007_n100004_f3n0 : Nat) (j100007_n100004_f3c0 : Nat) (j100007_n100004_f3B0 : List Blk), m_hindcastlaw25_one_L100006 F p1 p2 m j100007_100006 j100007_n100004_f0 j100007_n100004_f1 j100007_n100004_f2 j100007_n100004_f3 j100007_n100004_f4 = some o100007 ∧ j100007_n100004_f3n0 = j100007_n100004_f3.length ∧ Own 76 6 j100007_n100004_f3a0 j100007_n100004_f3n0 j100007_n100004_f3c0 (flat c_T_api_Shot j100007_n100004_f3) j100007_n100004_f3B0 ∧ E = [(0, .pointer (some ⟨p1b, 0, none⟩)), (1, .int .u64 p2.F), (4, .pointer (some ⟨b100004, 0, none⟩)), (6, .int .i64 j100007_100006)] ∧ L = (⟨p0b, ([.int .i64 p0.size] ++ flat cg_T_ring_place p0g0), p0t, (0, 0)⟩ :: (⟨p1b, [.int .i64 p1.Size, .slice p1a0 p1n0 p1c0], p1t, (0, 0)⟩ :: (⟨b5, [.int .u8 p2.What, .int .u64 p2.S.Frame, .int .u64 p2.S.Seed, .int .i32 p2.S.Players.1.X, .int .i32 p2.S.Players.1.Y, .int .i32 p2.S.Players.1.VX, .int .i32 p2.S.Players.1.VY, .int .u8 p2.S.Players.1.Health, .int .u8 p2.S.Players.1.Cool, .int .u8 p2.S.Players.1.Face, .int .i32 p2.S.Players.2.X, .int .i32 p2.S.Players.2.Y, .int .i32 p2.S.Players.2.VX, .int .i32 p2.S.Players.2.VY, .int .u8 p2.S.Players.2.Health, .int .u8 p2.S.Players.2.Cool, .int .u8 p2.S.Players.2.Face, .slice p2a0 p2n0 p2c0, .int .u16 p2.S.Score.1, .int .u16 p2.S.Score.2, .int .u64 p2.F], 58, (0, 0)⟩ :: (⟨b9, [.int .u64 v44_0.Frame, .int .u64 v44_0.Seed, .int .i32 v44_0.Players.1.X, .int .i32 v44_0.Players.1.Y, .int .i32 v44_0.Players.1.VX, .int .i32 v44_0.Players.1.VY, .int .u8 v44_0.Players.1.Health, .int .u8 v44_0.Players.1.Cool, .int .u8 v44_0.Players.1.Face, .int .i32 v44_0.Players.2.X, .int .i32 v44_0.Players.2.Y, .int .i32 v44_0.Players.2.VX, .int .i32 v44_0.Players.2.VY, .int .u8 v44_0.Players.2.Health, .int .u8 v44_0.Players.2.Cool, .int .u8 v44_0.Players.2.Face, .slice v44_0a0 v44_0n0 v44_0c0, .int .u16 v44_0.Score.1, .int .u16 v44_0.Score.2], 30, (0, 0)⟩ :: (⟨b100004, [.int .u64 j100007_n100004_f0, .int .u64 j100007_n100004_f1, .int .i32 j100007_n100004_f2.1.X, .int .i32 j100007_n100004_f2.1.Y, .int .i32 j100007_n100004_f2.1.VX, .int .i32 j100007_n100004_f2.1.VY, .int .u8 j100007_n100004_f2.1.Health, .int .u8 j100007_n100004_f2.1.Cool, .int .u8 j100007_n100004_f2.1.Face, .int .i32 j100007_n100004_f2.2.X, .int .i32 j100007_n100004_f2.2.Y, .int .i32 j100007_n100004_f2.2.VX, .int .i32 j100007_n100004_f2.2.VY, .int .u8 j100007_n100004_f2.2.Health, .int .u8 j100007_n100004_f2.2.Cool, .int .u8 j100007_n100004_f2.2.Face, .slice j100007_n100004_f3a0 j100007_n100004_f3n0 j100007_n100004_f3c0, .int .u16 j100007_n100004_f4.1, .int .u16 j100007_n100004_f4.2], 30, (0, 0)⟩ :: (p0P0 ++ (p1B0 ++ (p1P0 ++ (v44_0B0 ++ (j100007_n100004_f3B0 ++ []))))))))))) F ⟨(0 : Int), (0 : Int), (0 : Int), ((T_api_Player.mk (0 : Int) (0 : Int) (0 : Int) (0 : Int) (0 : Int) (0 : Int) (0 : Int)), (T_api_Player.mk (0 : Int) (0 : Int) (0 : Int) (0 : Int) (0 : Int) (0 : Int) (0 : Int))), ([] : List T_api_Shot), ((0 : Int), (0 : Int)), none, 0, 0, [], h, rfl, Own.zero, rfl, rfl⟩ (agree_cons rfl (agree_cons rfl (agree_cons rfl (agree_cons rfl agree_nil)))) (pSub (pCons (Sel.sc (Sel.sc Sel.hc)) (pCons (Sel.sc (Sel.sc (Sel.sa (Sel.sa (Sel.sc Sel.hc))))) (pCons (Sel.sc (Sel.sc (Sel.sa (Sel.sa Sel.hc)))) (pCons (Sel.sc Sel.hc) (pCons Sel.hc (pApp Sel.ha (pApp (Sel.sa Sel.ha) (pApp (Sel.sa Sel.ha) (pApp Sel.ha (pNo pNil))))))))))) ?_
    clear h
    rintro m100007 _ _ ⟨j100007_100006, j100007_n100004_f0, j100007_n100004_f1, j100007_n100004_f2, j100007_n100004_f3, j100007_n100004_f4, j100007_n100004_f3a0, j100007_n100004_f3n0, j100007_n100004_f3c0, j100007_n100004_f3B0, h, j100007_n100004_f3N0, j100007_n100004_f3V0, rfl, rfl⟩
    rcases m100007 with _ | m100007
    · rw [m_hindcastlaw25_one_L100006.eq_1] at h; cases h
    rw [m_hindcastlaw25_one_L100006.eq_2] at h
    refine wc_seq (wc_seq (wc_region ?_))
    iterate 3 refine wl_pure tt_ok rfl rfl ?_
    refine wl_pure (v := .pointer (some ⟨p1b, 1, none⟩)) tt_ok rfl rfl ?_
    refine wl_val (v := .slice p1a0 p1n0 p1c0) (val_load tt_ok rfl (List.Mem.tail _ (List.Mem.head _)) rfl) rfl ?_
    refine wl_val (v := .int .i64 (p1.L.length : Int)) (val_len tt_ok rfl rfl p1N0) rfl ?_
    refine wl_pure (v := .bool (decide (j100007_100006 < (p1.L.length : Int)))) tt_ok rfl rfl ?_
    refine wl_nil (wx_then ?_)
    refine wc_cond rfl (fun hc => ?_) (fun hc => ?_)
    · replace h := ct hc h
      refine wc_skip (wx_then (wc_seq (wc_block (wc_seq (wc_region ?_)))))
      iterate 2 refine wl_pure tt_ok rfl rfl ?_
      refine wl_pure (v := .pointer (some ⟨p1b, 1, none⟩)) tt_ok rfl rfl ?_
      refine wl_val (v := .slice p1a0 p1n0 p1c0) (val_load tt_ok rfl (List.Mem.tail _ (List.Mem.head _)) rfl) rfl ?_
      refine wl_pure tt_ok rfl rfl ?_
      replace h := bsome h; obtain ⟨v100021, x100021, h⟩ := h
      obtain ⟨G100021, y100021⟩ := getI_g p1G0 x100021
      refine wl_val (v := .pointer (some ((adOf p1a0).add (j100007_100006.toNat * 19 + 0)))) (val_ix (enc := cg_T_api_State) tt_ok rfl rfl rfl rfl (len_g p1N0 p1G0) (Rds.of_vec p1V0) cg_T_api_State_len rfl y100021) rfl ?_
      refine wl_val (v := .pointer (some ((adOf p1a0).add (j100007_100006.toNat * 19 + 0)))) (val_fa (k := j100007_100006.toNat * 19 + 0) (off := 0) tt_ok rfl rfl rfl rfl rfl) rfl ?_
      refine wl_val (v := .int .u64 v100021.Frame) (val_le (enc := cg_T_api_State) (xs := p1g0) tt_ok rfl (Rds.of_vec p1V0) ⟨_, (Sel.sc (Sel.sc (Sel.sc (Sel.sc (Sel.sc (Sel.sa Sel.ha))))))⟩ cg_T_api_State_len y100021 rfl) rfl ?_
      refine wl_pure tt_ok rfl rfl ?_
      refine wl_pure (v := .bool (v100021.Frame == p2.F)) tt_ok rfl rfl ?_
      refine wl_nil (wx_then ?_)
      refine wc_cond rfl (fun hc => ?_) (fun hc => ?_)
      · replace h := ct hc h
        refine wc_seq (wc_region ?_)
        iterate 2 refine wl_pure tt_ok rfl rfl ?_
        refine wl_pure (v := .pointer (some ⟨p1b, 1, none⟩)) tt_ok rfl rfl ?_
        refine wl_val (v := .slice p1a0 p1n0 p1c0) (val_load tt_ok rfl (List.Mem.tail _ (List.Mem.head _)) rfl) rfl ?_
        refine wl_pure tt_ok rfl rfl ?_
        replace h := bsome h; obtain ⟨v100031, x100031, h⟩ := h
        obtain ⟨G100031, y100031⟩ := getI_g p1G0 x100031
        refine wl_val (v := .pointer (some ((adOf p1a0).add (j100007_100006.toNat * 19 + 0)))) (val_ix (enc := cg_T_api_State) tt_ok rfl rfl rfl rfl (len_g p1N0 p1G0) (Rds.of_vec p1V0) cg_T_api_State_len rfl y100031) rfl ?_
        refine wl_val (v := .agg #[.int .u64 v100031.Frame, .int .u64 v100031.Seed, .int .i32 v100031.Players.1.X, .int .i32 v100031.Players.1.Y, .int .i32 v100031.Players.1.VX, .int .i32 v100031.Players.1.VY, .int .u8 v100031.Players.1.Health, .int .u8 v100031.Players.1.Cool, .int .u8 v100031.Players.1.Face, .int .i32 v100031.Players.2.X, .int .i32 v100031.Players.2.Y, .int .i32 v100031.Players.2.VX, .int .i32 v100031.Players.2.VY, .int .u8 v100031.Players.2.Health, .int .u8 v100031.Players.2.Cool, .int .u8 v100031.Players.2.Face, .slice G100031.1 G100031.2.1 G100031.2.2, .int .u16 v100031.Score.1, .int .u16 v100031.Score.2]) (val_le (enc := cg_T_api_State) (xs := p1g0) tt_ok rfl (Rds.of_vec p1V0) ⟨_, (Sel.sc (Sel.sc (Sel.sc (Sel.sc (Sel.sc (Sel.sa Sel.ha))))))⟩ cg_T_api_State_len y100031 rfl) rfl ?_
        apply wl_store tt_ok; rfl; exact (Upd.there (Upd.there (Upd.there (Upd.there Upd.here)))); rfl; rfl; rfl; rfl; rfl; rfl
        refine wl_pure tt_ok rfl rfl ?_
        refine wl_nil (wx_then (wc_ret (wx_block_ret (wx_then_ret ?_))))
        obtain rfl := Option.some.inj h
        have h := hl100007; clear hl100007; try dsimp only [orE_l, orE_r] at h
        refine wx_then_ret (wx_block_ret (wx_then_ret ?_))
        refine wx_inl (v := .tuple #[.agg #[.int .u64 v100031.Frame, .int .u64 v100031.Seed, .int .i32 v100031.Players.1.X, .int .i32 v100031.Players.1.Y, .int .i32 v100031.Players.1.VX, .int .i32 v100031.Players.1.VY, .int .u8 v100031.Players.1.Health, .int .u8 v100031.Players.1.Cool, .int .u8 v100031.Players.1.Face, .int .i32 v100031.Players.2.X, .int .i32 v100031.Players.2.Y, .int .i32 v100031.Players.2.VX, .int .i32 v100031.Players.2.VY, .int .u8 v100031.Players.2.Health, .int .u8 v100031.Players.2.Cool, .int .u8 v100031.Players.2.Face, .slice G100031.1 G100031.2.1 G100031.2.2, .int .u16 v100031.Score.1, .int .u16 v100031.Score.2], .bool true]) tt_ok (.inl rfl) Tryd.results44 (Res.cell rfl (List.Mem.tail _ (List.Mem.tail _ (List.Mem.tail _ (List.Mem.tail _ (List.Mem.head _))))) rfl (Res.tmp rfl Res.nil)) rfl ?_
        iterate 3 refine wl_pure tt_ok rfl rfl ?_
        refine wl_alloc tt_ok rfl rfl (fun b11 => ?_)
        apply wl_store tt_ok; rfl; exact Upd.here; rfl; rfl; rfl; rfl; rfl; rfl
        refine wl_pure tt_ok rfl rfl ?_
        refine wl_nil (wx_then (wc_seq (wc_region ?_)))
        refine wl_val (v := .agg #[.int .u64 v44_0.Frame, .int .u64 v44_0.Seed, .int .i32 v44_0.Players.1.X, .int .i32 v44_0.Players.1.Y, .int .i32 v44_0.Players.1.VX, .int .i32 v44_0.Players.1.VY, .int .u8 v44_0.Players.1.Health, .int .u8 v44_0.Players.1.Cool, .int .u8 v44_0.Players.1.Face, .int .i32 v44_0.Players.2.X, .int .i32 v44_0.Players.2.Y, .int .i32 v44_0.Players.2.VX, .int .i32 v44_0.Players.2.VY, .int .u8 v44_0.Players.2.Health, .int .u8 v44_0.Players.2.Cool, .int .u8 v44_0.Players.2.Face, .slice v44_0a0 v44_0n0 v44_0c0, .int .u16 v44_0.Score.1, .int .u16 v44_0.Score.2]) (val_load tt_ok rfl (List.Mem.tail _ (List.Mem.tail _ (List.Mem.tail _ (List.Mem.tail _ (List.Mem.head _))))) rfl) rfl ?_
        refine wl_val (v := .agg #[.int .u64 v100031.Frame, .int .u64 v100031.Seed, .int .i32 v100031.Players.1.X, .int .i32 v100031.Players.1.Y, .int .i32 v100031.Players.1.VX, .int .i32 v100031.Players.1.VY, .int .u8 v100031.Players.1.Health, .int .u8 v100031.Players.1.Cool, .int .u8 v100031.Players.1.Face, .int .i32 v100031.Players.2.X, .int .i32 v100031.Players.2.Y, .int .i32 v100031.Players.2.VX, .int .i32 v100031.Players.2.VY, .int .u8 v100031.Players.2.Health, .int .u8 v100031.Players.2.Cool, .int .u8 v100031.Players.2.Face, .slice G100031.1 G100031.2.1 G100031.2.2, .int .u16 v100031.Score.1, .int .u16 v100031.Score.2]) (val_load tt_ok rfl (List.Mem.head _) rfl) rfl ?_
        replace h := bsome h; obtain ⟨v56, x56, h⟩ := h
        refine wl_cq Tryd.call45 rfl rfl rfl (q_pf (k_hindcastref08_Same (p0 := v44_0) (p1 := v100031) v44_0N0 (vec_cap v44_0V0) (allrd_get (p1A0 w0 (ids (⟨p0b, ([.int .i64 p0.size] ++ flat cg_T_ring_place p0g0), p0t, (0, 0)⟩ :: (p0P0 ++ (⟨p1b, [.int .i64 p1.Size, .slice p1a0 p1n0 p1c0], p1t, (0, 0)⟩ :: (p1B0 ++ (p1P0 ++ []))))))) y100031).1 (allrd_get (p1A0 w0 (ids (⟨p0b, ([.int .i64 p0.size] ++ flat cg_T_ring_place p0g0), p0t, (0, 0)⟩ :: (p0P0 ++ (⟨p1b, [.int .i64 p1.Size, .slice p1a0 p1n0 p1c0], p1t, (0, 0)⟩ :: (p1B0 ++ (p1P0 ++ []))))))) y100031).2.1 x56) (fun w hI => ⟨(Rds.call (Rds.of_vec v44_0V0) pNil ⟨_, (Sel.sc (Sel.sc (Sel.sc (Sel.sc (Sel.sc (Sel.sc (Sel.sa (Sel.sa (Sel.sa Sel.ha)))))))))⟩) w hI, (Rds.call (allrd_get (p1A0 w0 (ids (⟨p0b, ([.int .i64 p0.size] ++ flat cg_T_ring_place p0g0), p0t, (0, 0)⟩ :: (p0P0 ++ (⟨p1b, [.int .i64 p1.Size, .slice p1a0 p1n0 p1c0], p1t, (0, 0)⟩ :: (p1B0 ++ (p1P0 ++ []))))))) y100031).2.2.1 pNil ⟨_, (Sel.sc (Sel.sc (Sel.sc (Sel.sc (Sel.sc (Sel.sc (Sel.sa (Sel.sa Sel.ha))))))))⟩) w hI⟩)) rfl ?_
        refine wl_pure tt_ok rfl rfl ?_
        refine wl_nil (wx_then (wc_seq (wc_region ?_)))
        refine wl_val (v := .agg #[.int .u64 v44_0.Frame, .int .u64 v44_0.Seed, .int .i32 v44_0.Players.1.X, .int .i32 v44_0.Players.1.Y, .int .i32 v44_0.Players.1.VX, .int .i32 v44_0.Players.1.VY, .int .u8 v44_0.Players.1.Health, .int .u8 v44_0.Players.1.Cool, .int .u8 v44_0.Players.1.Face, .int .i32 v44_0.Players.2.X, .int .i32 v44_0.Players.2.Y, .int .i32 v44_0.Players.2.VX, .int .i32 v44_0.Players.2.VY, .int .u8 v44_0.Players.2.Health, .int .u8 v44_0.Players.2.Cool, .int .u8 v44_0.Players.2.Face, .slice v44_0a0 v44_0n0 v44_0c0, .int .u16 v44_0.Score.1, .int .u16 v44_0.Score.2]) (val_load tt_ok rfl (List.Mem.tail _ (List.Mem.tail _ (List.Mem.tail _ (List.Mem.tail _ (List.Mem.head _))))) rfl) rfl ?_
        replace h := bsome h; obtain ⟨_, x58, h⟩ := h
        refine wl_cs Tryd.call42 rfl rfl rfl (s_sp (k_hindcastlaw25_spoil_o0 (p0 := v44_0) v44_0N0 v44_0V0 x58) (pApp (Sel.sc (Sel.sc (Sel.sc (Sel.sc (Sel.sc (Sel.sc (Sel.sa (Sel.sa (Sel.sa Sel.ha))))))))) pNil) (fun _ _ => trivial)) rfl ?_
        rintro _ _ ⟨_, ⟨rfl, rfl⟩, rfl⟩
        refine wl_nil (wx_then (wc_seq (wc_region ?_)))
        iterate 2 refine wl_pure tt_ok rfl rfl ?_
        replace h := bsome h; obtain ⟨v64, h, hg64⟩ := h
        refine wl_split (t := 60) rfl (fun hc => ?_) (fun hc => ?_)
        · replace h := ct hc h
          refine wl_run rfl ?_
          refine wl_pure tt_ok rfl rfl ?_
          refine wl_run rfl ?_
          refine wl_pure tt_ok rfl rfl ?_
          refine wl_run rfl ?_
          refine wl_pure (v := .bool (v44_1 == true)) tt_ok rfl rfl ?_
          simp only [Option.some.injEq, Prod.mk.injEq] at h
          obtain rfl := h
          have h := hg64; clear hg64
          refine wl_pure (v := .bool (v44_1 == true)) tt_ok rfl rfl ?_
          refine wl_pure tt_ok rfl rfl ?_
          refine wl_nil (wx_then (wc_ret (wx_block_ret (wx_then_ret ?_))))
          simp only [Option.some.injEq, Prod.mk.injEq] at h
          obtain ⟨rfl, rfl, rfl⟩ := h
          exact wx_spD tt_ok (.inl rfl) Tryd.results18 (Res.tmp rfl Res.nil) ⟨p0g0, p0P0, p1a0, p1n0, p1c0, p1B0, p1g0, p1P0, p0G0, p0A0, p1N0, p1V0, p1G0, p1A0, rfl, rfl⟩ (fun F => by simp) (pSub (pCons (Sel.sc Sel.hc) (pApp (Sel.sc (Sel.sc (Sel.sc (Sel.sc (Sel.sc Sel.ha))))) (pCons (Sel.sc Sel.hc) (pApp (Sel.sc (Sel.sc (Sel.sc (Sel.sc Sel.ha)))) (pApp (Sel.sc (Sel.sc (Sel.sc (Sel.sc Sel.ha)))) pNil))))))
        replace h := cf hc h
        refine wl_skip rfl rfl ?_
        refine wl_skip rfl rfl ?_
        refine wl_skip rfl rfl ?_
        simp only [Option.some.injEq, Prod.mk.injEq] at h
        obtain rfl := h
        have h := hg64; clear hg64
        refine wl_pure (v := .bool false) tt_ok rfl rfl ?_
        refine wl_pure tt_ok rfl rfl ?_
        refine wl_nil (wx_then (wc_ret (wx_block_ret (wx_then_ret ?_))))
        simp only [Option.some.injEq, Prod.mk.injEq] at h
        obtain ⟨rfl, rfl, rfl⟩ := h
        exact wx_spD tt_ok (.inl rfl) Tryd.results18 (Res.tmp rfl Res.nil) ⟨p0g0, p0P0, p1a0, p1n0, p1c0, p1B0, p1g0, p1P0, p0G0, p0A0, p1N0, p1V0, p1G0, p1A0, rfl, rfl⟩ (fun F => by simp) (pSub (pCons (Sel.sc Sel.hc) (pApp (Sel.sc (Sel.sc (Sel.sc (Sel.sc (Sel.sc Sel.ha))))) (pCons (Sel.sc Sel.hc) (pApp (Sel.sc (Sel.sc (Sel.sc (Sel.sc Sel.ha)))) (pApp (Sel.sc (Sel.sc (Sel.sc (Sel.sc Sel.ha)))) pNil))))))
      replace h := cf hc h
      refine wc_skip (wx_block (wx_then (wc_region ?_)))
      refine wl_pure tt_ok rfl rfl ?_
      refine wl_pure (v := .int .i64 (IntKind.wrap .i64 (j100007_100006 + (1 : Int)))) tt_ok rfl rfl ?_
      refine wl_pure tt_ok rfl rfl ?_
      refine wl_nil ?_
      exact wx_round m100007 (Nat.lt_succ_self m100007) ⟨(IntKind.wrap .i64 (j100007_100006 + (1 : Int))), j100007_n100004_f0, j100007_n100004_f1, j100007_n100004_f2, j100007_n100004_f3, j100007_n100004_f4, j100007_n100004_f3a0, j100007_n100004_f3n0, j100007_n100004_f3c0, j100007_n100004_f3B0, h, j100007_n100004_f3N0, j100007_n100004_f3V0, rfl, rfl⟩ (agree_cons rfl (agree_cons rfl (agree_cons rfl (agree_cons rfl agree_nil)))) (pSub (pCons Sel.hc (pCons Sel.hc (pCons Sel.hc (pCons Sel.hc (pCons Sel.hc (pApp Sel.ha (pApp Sel.ha (pApp Sel.ha (pApp Sel.ha (pApp Sel.ha pNil)))))))))))
    replace h := cf hc h
    refine wc_exit (wx_then_exit ?_)
    obtain rfl := Option.some.inj h
    have h := hl100007; clear hl100007; try dsimp only [orE_l, orE_r] at h
    refine wx_then_exit (wx_block_exit (wx_then (wc_seq (wc_region ?_))))
    refine wl_pure (v := .agg #[.int .u64 (0 : Int), .int .u64 (0 : Int), .int .i32 (0 : Int), .int .i32 (0 : Int), .int .i32 (0 : Int), .int .i32 (0 : Int), .int .u8 (0 : Int), .int .u8 (0 : Int), .int .u8 (0 : Int), .int .i32 (0 : Int), .int .i32 (0 : Int), .int .i32 (0 : Int), .int .i32 (0 : Int), .int .u8 (0 : Int), .int .u8 (0 : Int), .int .u8 (0 : Int), .slice none 0 0, .int .u16 (0 : Int), .int .u16 (0 : Int)]) tt_ok rfl rfl ?_
    apply wl_store tt_ok; rfl; exact (Upd.there (Upd.there (Upd.there (Upd.there Upd.here)))); rfl; rfl; rfl; rfl; rfl; rfl
    refine wl_pure tt_ok rfl rfl ?_
    refine wl_nil (wx_then (wc_ret ?_))
    refine wx_inl (v := .tuple #[.agg #[.int .u64 (0 : Int), .int .u64 (0 : Int), .int .i32 (0 : Int), .int .i32 (0 : Int), .int .i32 (0 : Int), .int .i32 (0 : Int), .int .u8 (0 : Int), .int .u8 (0 : Int), .int .u8 (0 : Int), .int .i32 (0 : Int), .int .i32 (0 : Int), .int .i32 (0 : Int), .int .i32 (0 : Int), .int .u8 (0 : Int), .int .u8 (0 : Int), .int .u8 (0 : Int), .slice none 0 0, .int .u16 (0 : Int), .int .u16 (0 : Int)], .bool false]) tt_ok (.inl rfl) Tryd.results44 (Res.cell rfl (List.Mem.tail _ (List.Mem.tail _ (List.Mem.tail _ (List.Mem.tail _ (List.Mem.head _))))) rfl (Res.tmp rfl Res.nil)) rfl ?_
    iterate 3 refine wl_pure tt_ok rfl rfl ?_
    refine wl_alloc tt_ok rfl rfl (fun b11 => ?_)
    apply wl_store tt_ok; rfl; exact Upd.here; rfl; rfl; rfl; rfl; rfl; rfl
    refine wl_pure tt_ok rfl rfl ?_
    refine wl_nil (wx_then (wc_seq (wc_region ?_)))
    refine wl_val (v := .agg #[.int .u64 v44_0.Frame, .int .u64 v44_0.Seed, .int .i32 v44_0.Players.1.X, .int .i32 v44_0.Players.1.Y, .int .i32 v44_0.Players.1.VX, .int .i32 v44_0.Players.1.VY, .int .u8 v44_0.Players.1.Health, .int .u8 v44_0.Players.1.Cool, .int .u8 v44_0.Players.1.Face, .int .i32 v44_0.Players.2.X, .int .i32 v44_0.Players.2.Y, .int .i32 v44_0.Players.2.VX, .int .i32 v44_0.Players.2.VY, .int .u8 v44_0.Players.2.Health, .int .u8 v44_0.Players.2.Cool, .int .u8 v44_0.Players.2.Face, .slice v44_0a0 v44_0n0 v44_0c0, .int .u16 v44_0.Score.1, .int .u16 v44_0.Score.2]) (val_load tt_ok rfl (List.Mem.tail _ (List.Mem.tail _ (List.Mem.tail _ (List.Mem.tail _ (List.Mem.head _))))) rfl) rfl ?_
    refine wl_val (v := .agg #[.int .u64 (0 : Int), .int .u64 (0 : Int), .int .i32 (0 : Int), .int .i32 (0 : Int), .int .i32 (0 : Int), .int .i32 (0 : Int), .int .u8 (0 : Int), .int .u8 (0 : Int), .int .u8 (0 : Int), .int .i32 (0 : Int), .int .i32 (0 : Int), .int .i32 (0 : Int), .int .i32 (0 : Int), .int .u8 (0 : Int), .int .u8 (0 : Int), .int .u8 (0 : Int), .slice none 0 0, .int .u16 (0 : Int), .int .u16 (0 : Int)]) (val_load tt_ok rfl (List.Mem.head _) rfl) rfl ?_
    replace h := bsome h; obtain ⟨v56, x56, h⟩ := h
    refine wl_cq Tryd.call45 rfl rfl rfl (q_pf (k_hindcastref08_Same (p0 := v44_0) (p1 := (T_api_State.mk (0 : Int) (0 : Int) ((T_api_Player.mk (0 : Int) (0 : Int) (0 : Int) (0 : Int) (0 : Int) (0 : Int) (0 : Int)), (T_api_Player.mk (0 : Int) (0 : Int) (0 : Int) (0 : Int) (0 : Int) (0 : Int) (0 : Int))) ([] : List T_api_Shot) ((0 : Int), (0 : Int)))) v44_0N0 (vec_cap v44_0V0) rfl (Nat.le_refl _) x56) (fun w hI => ⟨(Rds.call (Rds.of_vec v44_0V0) pNil ⟨_, (Sel.sc (Sel.sc (Sel.sc (Sel.sc (Sel.sc (Sel.sc (Sel.sa (Sel.sa (Sel.sa Sel.ha)))))))))⟩) w hI, (fun _ _ => Rds.nil) w hI⟩)) rfl ?_
    refine wl_pure tt_ok rfl rfl ?_
    refine wl_nil (wx_then (wc_seq (wc_region ?_)))
    refine wl_val (v := .agg #[.int .u64 v44_0.Frame, .int .u64 v44_0.Seed, .int .i32 v44_0.Players.1.X, .int .i32 v44_0.Players.1.Y, .int .i32 v44_0.Players.1.VX, .int .i32 v44_0.Players.1.VY, .int .u8 v44_0.Players.1.Health, .int .u8 v44_0.Players.1.Cool, .int .u8 v44_0.Players.1.Face, .int .i32 v44_0.Players.2.X, .int .i32 v44_0.Players.2.Y, .int .i32 v44_0.Players.2.VX, .int .i32 v44_0.Players.2.VY, .int .u8 v44_0.Players.2.Health, .int .u8 v44_0.Players.2.Cool, .int .u8 v44_0.Players.2.Face, .slice v44_0a0 v44_0n0 v44_0c0, .int .u16 v44_0.Score.1, .int .u16 v44_0.Score.2]) (val_load tt_ok rfl (List.Mem.tail _ (List.Mem.tail _ (List.Mem.tail _ (List.Mem.tail _ (List.Mem.head _))))) rfl) rfl ?_
    replace h := bsome h; obtain ⟨_, x58, h⟩ := h
    refine wl_cs Tryd.call42 rfl rfl rfl (s_sp (k_hindcastlaw25_spoil_o0 (p0 := v44_0) v44_0N0 v44_0V0 x58) (pApp (Sel.sc (Sel.sc (Sel.sc (Sel.sc (Sel.sc (Sel.sc (Sel.sa (Sel.sa (Sel.sa Sel.ha))))))))) pNil) (fun _ _ => trivial)) rfl ?_
    rintro _ _ ⟨_, ⟨rfl, rfl⟩, rfl⟩
    refine wl_nil (wx_then (wc_seq (wc_region ?_)))
    iterate 2 refine wl_pure tt_ok rfl rfl ?_
    replace h := bsome h; obtain ⟨v64, h, hg64⟩ := h
    refine wl_split (t := 60) rfl (fun hc => ?_) (fun hc => ?_)
    · replace h := ct hc h
      refine wl_run rfl ?_
      refine wl_pure tt_ok rfl rfl ?_
      refine wl_run rfl ?_
      refine wl_pure tt_ok rfl rfl ?_
      refine wl_run rfl ?_
      refine wl_pure (v := .bool (v44_1 == false)) tt_ok rfl rfl ?_
      simp only [Option.some.injEq, Prod.mk.injEq] at h
      obtain rfl := h
      have h := hg64; clear hg64
      refine wl_pure (v := .bool (v44_1 == false)) tt_ok rfl rfl ?_
      refine wl_pure tt_ok rfl rfl ?_
      refine wl_nil (wx_then (wc_ret (wx_block_ret (wx_then_ret ?_))))
      simp only [Option.some.injEq, Prod.mk.injEq] at h
      obtain ⟨rfl, rfl, rfl⟩ := h
      exact wx_spD tt_ok (.inl rfl) Tryd.results18 (Res.tmp rfl Res.nil) ⟨p0g0, p0P0, p1a0, p1n0, p1c0, p1B0, p1g0, p1P0, p0G0, p0A0, p1N0, p1V0, p1G0, p1A0, rfl, rfl⟩ (fun F => by simp) (pSub (pCons (Sel.sc Sel.hc) (pApp (Sel.sc (Sel.sc (Sel.sc (Sel.sc (Sel.sc Sel.ha))))) (pCons (Sel.sc Sel.hc) (pApp (Sel.sc (Sel.sc (Sel.sc (Sel.sc Sel.ha)))) (pApp (Sel.sc (Sel.sc (Sel.sc (Sel.sc Sel.ha)))) pNil))))))
    replace h := cf hc h
    refine wl_skip rfl rfl ?_
    refine wl_skip rfl rfl ?_
    refine wl_skip rfl rfl ?_
    simp only [Option.some.injEq, Prod.mk.injEq] at h
    obtain rfl := h
    have h := hg64; clear hg64
    refine wl_pure (v := .bool false) tt_ok rfl rfl ?_
    refine wl_pure tt_ok rfl rfl ?_
    refine wl_nil (wx_then (wc_ret (wx_block_ret (wx_then_ret ?_))))
    simp only [Option.some.injEq, Prod.mk.injEq] at h
    obtain ⟨rfl, rfl, rfl⟩ := h
    exact wx_spD tt_ok (.inl rfl) Tryd.results18 (Res.tmp rfl Res.nil) ⟨p0g0, p0P0, p1a0, p1n0, p1c0, p1B0, p1g0, p1P0, p0G0, p0A0, p1N0, p1V0, p1G0, p1A0, rfl, rfl⟩ (fun F => by simp) (pSub (pCons (Sel.sc Sel.hc) (pApp (Sel.sc (Sel.sc (Sel.sc (Sel.sc (Sel.sc Sel.ha))))) (pCons (Sel.sc Sel.hc) (pApp (Sel.sc (Sel.sc (Sel.sc (Sel.sc Sel.ha)))) (pApp (Sel.sc (Sel.sc (Sel.sc (Sel.sc Sel.ha)))) pNil))))))
  replace h := cf hc h
  refine wc_seq (wc_region ?_)
  refine wl_pure (v := .bool ((Int.tmod p2.What 4) == (2 : Int))) tt_ok rfl rfl ?_
  refine wl_pure tt_ok rfl rfl ?_
  refine wl_nil (wx_then ?_)
  refine wc_cond rfl (fun hc => ?_) (fun hc => ?_)
  · replace h := ct hc h
    refine wc_seq (wc_region ?_)
    refine wl_pure tt_ok rfl rfl ?_
    replace h := bsome h; obtain ⟨⟨v69_0, v69_1⟩, x69, h⟩ := h; try dsimp only at h
    refine wl_cs Tryd.call13 rfl rfl rfl (s_sp (k_ring_Ring_Newest (p0 := p0) p0G0 p0A0 x69) (pCons (Sel.sc Sel.hc) (pApp (Sel.sc Sel.ha) pNil)) (fun _ _ => trivial)) rfl ?_
    rintro _ _ ⟨_, ⟨v69_0a0, v69_0n0, v69_0c0, v69_0B0, v69_0N0, v69_0V0, rfl, rfl⟩, rfl⟩
    iterate 3 refine wl_pure tt_ok rfl rfl ?_
    refine wl_alloc tt_ok rfl rfl (fun b14 => ?_)
    apply wl_store tt_ok; rfl; exact Upd.here; rfl; rfl; rfl; rfl; rfl; rfl
    refine wl_pure tt_ok rfl rfl ?_
    refine wl_nil (wx_then (wc_seq (wc_region ?_)))
    refine wl_pure tt_ok rfl rfl ?_
    refine wl_inl Tryd.call46 rfl rfl rfl Tryd.func46 rfl Tryd.ntmps46 rfl rfl rfl ?_
    refine wc_seq (wc_region ?_)
    refine wl_alloc tt_ok rfl rfl (fun b200002 => ?_)
    refine wl_pure tt_ok rfl rfl ?_
    refine wl_nil (wx_then (wc_seq (wc_region ?_)))
    refine wl_pure tt_ok rfl rfl ?_
    refine wl_nil (wx_then (wc_seq (wc_seq (wc_region ?_))))
    refine wl_pure tt_ok rfl rfl ?_
    refine wl_nil (wx_then (wc_block ?_))
    replace h := bsome h; obtain ⟨l200009_200004, h, hl200009⟩ := h
    refine wc_loop (fun m E L => ∃ (j200009_200004 : Int) (j200009_200005 : Int), m_hindcastlaw25_one_L200008 F p1 m j200009_200004 j200009_200005 = some l200009_200004 ∧ E = [(0, .pointer (some ⟨p1b, 0, none⟩)), (2, .pointer (some ⟨b200002, 0, none⟩)), (4, .int .i64 j200009_200004), (5, .int .i64 j200009_200005)] ∧ L = (⟨p0b, ([.int .i64 p0.size] ++ flat cg_T_ring_place p0g0), p0t, (0, 0)⟩ :: (⟨p1b, [.int .i64 p1.Size, .slice p1a0 p1n0 p1c0], p1t, (0, 0)⟩ :: (⟨b5, [.int .u8 p2.What, .int .u64 p2.S.Frame, .int .u64 p2.S.Seed, .int .i32 p2.S.Players.1.X, .int .i32 p2.S.Players.1.Y, .int .i32 p2.S.Players.1.VX, .int .i32 p2.S.Players.1.VY, .int .u8 p2.S.Players.1.Health, .int .u8 p2.S.Players.1.Cool, .int .u8 p2.S.Players.1.Face, .int .i32 p2.S.Players.2.X, .int .i32 p2.S.Players.2.Y, .int .i32 p2.S.Players.2.VX, .int .i32 p2.S.Players.2.VY, .int .u8 p2.S.Players.2.Health, .int .u8 p2.S.Players.2.Cool, .int .u8 p2.S.Players.2.Face, .slice p2a0 p2n0 p2c0, .int .u16 p2.S.Score.1, .int .u16 p2.S.Score.2, .int .u64 p2.F], 58, (0, 0)⟩ :: (⟨b14, [.int .u64 v69_0.Frame, .int .u64 v69_0.Seed, .int .i32 v69_0.Players.1.X, .int .i32 v69_0.Players.1.Y, .int .i32 v69_0.Players.1.VX, .int .i32 v69_0.Players.1.VY, .int .u8 v69_0.Players.1.Health, .int .u8 v69_0.Players.1.Cool, .int .u8 v69_0.Players.1.Face, .int .i32 v69_0.Players.2.X, .int .i32 v69_0.Players.2.Y, .int .i32 v69_0.Players.2.VX, .int .i32 v69_0.Players.2.VY, .int .u8 v69_0.Players.2.Health, .int .u8 v69_0.Players.2.Cool, .int .u8 v69_0.Players.2.Face, .slice v69_0a0 v69_0n0 v69_0c0, .int .u16 v69_0.Score.1, .int .u16 v69_0.Score.2], 30, (0, 0)⟩ :: (⟨b200002, [.int .u64 (0 : Int), .int .u64 (0 : Int), .int .i32 (0 : Int), .int .i32 (0 : Int), .int .i32 (0 : Int), .int .i32 (0 : Int), .int .u8 (0 : Int), .int .u8 (0 : Int), .int .u8 (0 : Int), .int .i32 (0 : Int), .int .i32 (0 : Int), .int .i32 (0 : Int), .int .i32 (0 : Int), .int .u8 (0 : Int), .int .u8 (0 : Int), .int .u8 (0 : Int), .slice none 0 0, .int .u16 (0 : Int), .int .u16 (0 : Int)], 30, (0, 0)⟩ :: (p0P0 ++ (p1B0 ++ (p1P0 ++ (v69_0B0 ++ [])))))))))) F ⟨(-1 : Int), (0 : Int), h, rfl, rfl⟩ (agree_cons rfl (agree_cons rfl (agree_cons rfl (agree_cons rfl agree_nil)))) (pSub (pCons (Sel.sc (Sel.sc Sel.hc)) (pCons (Sel.sc (Sel.sc (Sel.sa (Sel.sa (Sel.sc Sel.hc))))) (pCons (Sel.sc (Sel.sc (Sel.sa (Sel.sa Sel.hc)))) (pCons (Sel.sc Sel.hc) (pCons Sel.hc (pApp Sel.ha (pApp (Sel.sa Sel.ha) (pApp (Sel.sa Sel.ha) (pApp Sel.ha pNil)))))))))) ?_
    clear h
    rintro m200009 _ _ ⟨j200009_200004, j200009_200005, h, rfl, rfl⟩
    rcases m200009 with _ | m200009
    · rw [m_hindcastlaw25_one_L200008.eq_1] at h; cases h
    rw [m_hindcastlaw25_one_L200008.eq_2] at h
    refine wc_seq (wc_seq (wc_region ?_))
    iterate 3 refine wl_pure tt_ok rfl rfl ?_
    refine wl_pure (v := .pointer (some ⟨p1b, 1, none⟩)) tt_ok rfl rfl ?_
    refine wl_val (v := .slice p1a0 p1n0 p1c0) (val_load tt_ok rfl (List.Mem.tail _ (List.Mem.head _)) rfl) rfl ?_
    refine wl_val (v := .int .i64 (p1.L.length : Int)) (val_len tt_ok rfl rfl p1N0) rfl ?_
    refine wl_pure (v := .bool (decide (j200009_200005 < (p1.L.length : Int)))) tt_ok rfl rfl ?_
    refine wl_nil (wx_then ?_)
    refine wc_cond rfl (fun hc => ?_) (fun hc => ?_)
    · replace h := ct hc h
      refine wc_skip (wx_then (wc_seq (wc_block (wc_seq ?_))))
      refine wc_quiet (by kernel_rfl) (by kernel_rfl) ?_
      refine wq_pure tt_ok rfl rfl ?_
      refine wq_pure (v := .bool (decide (j200009_200004 < (0 : Int)))) tt_ok rfl rfl ?_
      refine wq_pure tt_ok rfl rfl ?_
      replace h := bsome h; obtain ⟨v200035, h, hg200035⟩ := h
      refine wq_split (t := 17) rfl (fun hc => ?_) (fun hc => ?_)
      · replace h := ct hc h
        refine wq_skip rfl rfl ?_
        refine wq_skip rfl rfl ?_
        refine wq_skip rfl rfl ?_
        refine wq_skip rfl rfl ?_
        refine wq_skip rfl rfl ?_
        refine wq_skip rfl rfl ?_
        refine wq_skip rfl rfl ?_
        refine wq_skip rfl rfl ?_
        refine wq_skip rfl rfl ?_
        refine wq_skip rfl rfl ?_
        refine wq_skip rfl rfl ?_
        refine wq_skip rfl rfl ?_
        refine wq_skip rfl rfl ?_
        refine wq_skip rfl rfl ?_
        refine wq_skip rfl rfl ?_
        refine wq_skip rfl rfl ?_
        refine wq_skip rfl rfl ?_
        simp only [Option.some.injEq, Prod.mk.injEq] at h
        obtain rfl := h
        have h := hg200035; clear hg200035
        refine wq_pure (v := .bool true) tt_ok rfl rfl ?_
        refine wq_nil ?_
        refine wx_then ?_
        replace h := ct rfl h
        refine wc_cond_true rfl ?_
        refine wc_region ?_
        iterate 2 refine wl_pure tt_ok rfl rfl ?_
        refine wl_nil (wx_block (wx_then (wc_region ?_)))
        refine wl_pure tt_ok rfl rfl ?_
        refine wl_pure (v := .int .i64 (IntKind.wrap .i64 (j200009_200005 + (1 : Int)))) tt_ok rfl rfl ?_
        refine wl_pure tt_ok rfl rfl ?_
        refine wl_nil ?_
        exact wx_round m200009 (Nat.lt_succ_self m200009) ⟨j200009_200005, (IntKind.wrap .i64 (j200009_200005 + (1 : Int))), h, rfl, rfl⟩ (agree_cons rfl (agree_cons rfl (agree_cons rfl (agree_cons rfl agree_nil)))) (pSub (pCons Sel.hc (pCons Sel.hc (pCons Sel.hc (pCons Sel.hc (pCons Sel.hc (pApp Sel.ha (pApp Sel.ha (pApp Sel.ha (pApp Sel.ha pNil))))))))))
      replace h := cf hc h
      refine wq_run rfl ?_
      refine wq_pure tt_ok rfl rfl ?_
      refine wq_run rfl ?_
      refine wq_pure tt_ok rfl rfl ?_
      refine wq_run rfl ?_
      refine wq_pure (v := .pointer (some ⟨p1b, 1, none⟩)) tt_ok rfl rfl ?_
      refine wq_run rfl ?_
      refine wq_val (v := .slice p1a0 p1n0 p1c0) (val_load tt_ok rfl (List.Mem.tail _ (List.Mem.head _)) rfl) rfl ?_
      refine wq_run rfl ?_
      refine wq_pure tt_ok rfl rfl ?_
      replace h := bsome h; obtain ⟨v200023, x200023, h⟩ := h
      obtain ⟨G200023, y200023⟩ := getI_g p1G0 x200023
      refine wq_run rfl ?_
      refine wq_val (v := .pointer (some ((adOf p1a0).add (j200009_200005.toNat * 19 + 0)))) (val_ix (enc := cg_T_api_State) tt_ok rfl rfl rfl rfl (len_g p1N0 p1G0) (Rds.of_vec p1V0) cg_T_api_State_len rfl y200023) rfl ?_
      refine wq_run rfl ?_
      refine wq_val (v := .pointer (some ((adOf p1a0).add (j200009_200005.toNat * 19 + 0)))) (val_fa (k := j200009_200005.toNat * 19 + 0) (off := 0) tt_ok rfl rfl rfl rfl rfl) rfl ?_
      refine wq_run rfl ?_
      refine wq_val (v := .int .u64 v200023.Frame) (val_le (enc := cg_T_api_State) (xs := p1g0) tt_ok rfl (Rds.of_vec p1V0) ⟨_, (Sel.sc (Sel.sc (Sel.sc (Sel.sc (Sel.sc (Sel.sa Sel.ha))))))⟩ cg_T_api_State_len y200023 rfl) rfl ?_
      refine wq_run rfl ?_
      refine wq_pure tt_ok rfl rfl ?_
      refine wq_run rfl ?_
      refine wq_pure tt_ok rfl rfl ?_
      refine wq_run rfl ?_
      refine wq_pure (v := .pointer (some ⟨p1b, 1, none⟩)) tt_ok rfl rfl ?_
      refine wq_run rfl ?_
      refine wq_val (v := .slice p1a0 p1n0 p1c0) (val_load tt_ok rfl (List.Mem.tail _ (List.Mem.head _)) rfl) rfl ?_
      refine wq_run rfl ?_
      refine wq_pure tt_ok rfl rfl ?_
      replace h := bsome h; obtain ⟨v200031, x200031, h⟩ := h
      obtain ⟨G200031, y200031⟩ := getI_g p1G0 x200031
      refine wq_run rfl ?_
      refine wq_val (v := .pointer (some ((adOf p1a0).add (j200009_200004.toNat * 19 + 0)))) (val_ix (enc := cg_T_api_State) tt_ok rfl rfl rfl rfl (len_g p1N0 p1G0) (Rds.of_vec p1V0) cg_T_api_State_len rfl y200031) rfl ?_
      refine wq_run rfl ?_
      refine wq_val (v := .pointer (some ((adOf p1a0).add (j200009_200004.toNat * 19 + 0)))) (val_fa (k := j200009_200004.toNat * 19 + 0) (off := 0) tt_ok rfl rfl rfl rfl rfl) rfl ?_
      refine wq_run rfl ?_
      refine wq_val (v := .int .u64 v200031.Frame) (val_le (enc := cg_T_api_State) (xs := p1g0) tt_ok rfl (Rds.of_vec p1V0) ⟨_, (Sel.sc (Sel.sc (Sel.sc (Sel.sc (Sel.sc (Sel.sa Sel.ha))))))⟩ cg_T_api_State_len y200031 rfl) rfl ?_
      refine wq_run rfl ?_
      refine wq_pure (v := .bool (decide (v200031.Frame < v200023.Frame))) tt_ok rfl rfl ?_
      simp only [Option.some.injEq, Prod.mk.injEq] at h
      obtain rfl := h
      have h := hg200035; clear hg200035
      refine wq_pure (v := .bool (decide (v200031.Frame < v200023.Frame))) tt_ok rfl rfl ?_
      refine wq_nil ?_
      refine wx_then ?_
      refine wc_cond rfl (fun hc => ?_) (fun hc => ?_)
      · replace h := ct hc h
        refine wc_region ?_
        iterate 2 refine wl_pure tt_ok rfl rfl ?_
        refine wl_nil (wx_block (wx_then (wc_region ?_)))
        refine wl_pure tt_ok rfl rfl ?_
        refine wl_pure (v := .int .i64 (IntKind.wrap .i64 (j200009_200005 + (1 : Int)))) tt_ok rfl rfl ?_
        refine wl_pure tt_ok rfl rfl ?_
        refine wl_nil ?_
        exact wx_round m200009 (Nat.lt_succ_self m200009) ⟨j200009_200005, (IntKind.wrap .i64 (j200009_200005 + (1 : Int))), h, rfl, rfl⟩ (agree_cons rfl (agree_cons rfl (agree_cons rfl (agree_cons rfl agree_nil)))) (pSub (pCons Sel.hc (pCons Sel.hc (pCons Sel.hc (pCons Sel.hc (pCons Sel.hc (pApp Sel.ha (pApp Sel.ha (pApp Sel.ha (pApp Sel.ha pNil))))))))))
      replace h := cf hc h
      refine wc_skip (wx_block (wx_then (wc_region ?_)))
      refine wl_pure tt_ok rfl rfl ?_
      refine wl_pure (v := .int .i64 (IntKind.wrap .i64 (j200009_200005 + (1 : Int)))) tt_ok rfl rfl ?_
      refine wl_pure tt_ok rfl rfl ?_
      refine wl_nil ?_
      exact wx_round m200009 (Nat.lt_succ_self m200009) ⟨j200009_200004, (IntKind.wrap .i64 (j200009_200005 + (1 : Int))), h, rfl, rfl⟩ (agree_cons rfl (agree_cons rfl (agree_cons rfl (agree_cons rfl agree_nil)))) (pSub (pCons Sel.hc (pCons Sel.hc (pCons Sel.hc (pCons Sel.hc (pCons Sel.hc (pApp Sel.ha (pApp Sel.ha (pApp Sel.ha (pApp Sel.ha pNil))))))))))
    replace h := cf hc h
    refine wc_exit (wx_then_exit ?_)
    simp only [Option.some.injEq] at h
    obtain rfl := h
    have h := hl200009; clear hl200009; try dsimp only [orE_l, orE_r] at h
    refine wx_then_exit (wx_block_exit (wx_then (wc_seq (wc_seq (wc_region ?_)))))
    refine wl_pure tt_ok rfl rfl ?_
    refine wl_pure (v := .bool (decide (j200009_200004 < (0 : Int)))) tt_ok rfl rfl ?_
    refine wl_nil (wx_then ?_)
    refine wc_cond rfl (fun hc => ?_) (fun hc => ?_)
    · replace h := ct hc h
      refine wc_seq (wc_region ?_)
      refine wl_pure (v := .agg #[.int .u64 (0 : Int), .int .u64 (0 : Int), .int .i32 (0 : Int), .int .i32 (0 : Int), .int .i32 (0 : Int), .int .i32 (0 : Int), .int .u8 (0 : Int), .int .u8 (0 : Int), .int .u8 (0 : Int), .int .i32 (0 : Int), .int .i32 (0 : Int), .int .i32 (0 : Int), .int .i32 (0 : Int), .int .u8 (0 : Int), .int .u8 (0 : Int), .int .u8 (0 : Int), .slice none 0 0, .int .u16 (0 : Int), .int .u16 (0 : Int)]) tt_ok rfl rfl ?_
      apply wl_store tt_ok; rfl; exact (Upd.there (Upd.there (Upd.there (Upd.there Upd.here)))); rfl; rfl; rfl; rfl; rfl; rfl
      refine wl_pure tt_ok rfl rfl ?_
      refine wl_nil (wx_then (wc_ret (wx_then_ret ?_)))
      refine wx_inl (v := .tuple #[.agg #[.int .u64 (0 : Int), .int .u64 (0 : Int), .int .i32 (0 : Int), .int .i32 (0 : Int), .int .i32 (0 : Int), .int .i32 (0 : Int), .int .u8 (0 : Int), .int .u8 (0 : Int), .int .u8 (0 : Int), .int .i32 (0 : Int), .int .i32 (0 : Int), .int .i32 (0 : Int), .int .i32 (0 : Int), .int .u8 (0 : Int), .int .u8 (0 : Int), .int .u8 (0 : Int), .slice none 0 0, .int .u16 (0 : Int), .int .u16 (0 : Int)], .bool false]) tt_ok (.inl rfl) Tryd.results46 (Res.cell rfl (List.Mem.tail _ (List.Mem.tail _ (List.Mem.tail _ (List.Mem.tail _ (List.Mem.head _))))) rfl (Res.tmp rfl Res.nil)) rfl ?_
      iterate 3 refine wl_pure tt_ok rfl rfl ?_
      refine wl_alloc tt_ok rfl rfl (fun b16 => ?_)
      apply wl_store tt_ok; rfl; exact Upd.here; rfl; rfl; rfl; rfl; rfl; rfl
      refine wl_pure tt_ok rfl rfl ?_
      refine wl_nil (wx_then (wc_seq (wc_region ?_)))
      refine wl_val (v := .agg #[.int .u64 v69_0.Frame, .int .u64 v69_0.Seed, .int .i32 v69_0.Players.1.X, .int .i32 v69_0.Players.1.Y, .int .i32 v69_0.Players.1.VX, .int .i32 v69_0.Players.1.VY, .int .u8 v69_0.Players.1.Health, .int .u8 v69_0.Players.1.Cool, .int .u8 v69_0.Players.1.Face, .int .i32 v69_0.Players.2.X, .int .i32 v69_0.Players.2.Y, .int .i32 v69_0.Players.2.VX, .int .i32 v69_0.Players.2.VY, .int .u8 v69_0.Players.2.Health, .int .u8 v69_0.Players.2.Cool, .int .u8 v69_0.Players.2.Face, .slice v69_0a0 v69_0n0 v69_0c0, .int .u16 v69_0.Score.1, .int .u16 v69_0.Score.2]) (val_load tt_ok rfl (List.Mem.tail _ (List.Mem.tail _ (List.Mem.tail _ (List.Mem.tail _ (List.Mem.head _))))) rfl) rfl ?_
      refine wl_val (v := .agg #[.int .u64 (0 : Int), .int .u64 (0 : Int), .int .i32 (0 : Int), .int .i32 (0 : Int), .int .i32 (0 : Int), .int .i32 (0 : Int), .int .u8 (0 : Int), .int .u8 (0 : Int), .int .u8 (0 : Int), .int .i32 (0 : Int), .int .i32 (0 : Int), .int .i32 (0 : Int), .int .i32 (0 : Int), .int .u8 (0 : Int), .int .u8 (0 : Int), .int .u8 (0 : Int), .slice none 0 0, .int .u16 (0 : Int), .int .u16 (0 : Int)]) (val_load tt_ok rfl (List.Mem.head _) rfl) rfl ?_
      replace h := bsome h; obtain ⟨v79, x79, h⟩ := h
      refine wl_cq Tryd.call45 rfl rfl rfl (q_pf (k_hindcastref08_Same (p0 := v69_0) (p1 := (T_api_State.mk (0 : Int) (0 : Int) ((T_api_Player.mk (0 : Int) (0 : Int) (0 : Int) (0 : Int) (0 : Int) (0 : Int) (0 : Int)), (T_api_Player.mk (0 : Int) (0 : Int) (0 : Int) (0 : Int) (0 : Int) (0 : Int) (0 : Int))) ([] : List T_api_Shot) ((0 : Int), (0 : Int)))) v69_0N0 (vec_cap v69_0V0) rfl (Nat.le_refl _) x79) (fun w hI => ⟨(Rds.call (Rds.of_vec v69_0V0) pNil ⟨_, (Sel.sc (Sel.sc (Sel.sc (Sel.sc (Sel.sc (Sel.sc (Sel.sa (Sel.sa (Sel.sa Sel.ha)))))))))⟩) w hI, (fun _ _ => Rds.nil) w hI⟩)) rfl ?_
      refine wl_pure tt_ok rfl rfl ?_
      refine wl_nil (wx_then (wc_seq (wc_region ?_)))
      refine wl_val (v := .agg #[.int .u64 v69_0.Frame, .int .u64 v69_0.Seed, .int .i32 v69_0.Players.1.X, .int .i32 v69_0.Players.1.Y, .int .i32 v69_0.Players.1.VX, .int .i32 v69_0.Players.1.VY, .int .u8 v69_0.Players.1.Health, .int .u8 v69_0.Players.1.Cool, .int .u8 v69_0.Players.1.Face, .int .i32 v69_0.Players.2.X, .int .i32 v69_0.Players.2.Y, .int .i32 v69_0.Players.2.VX, .int .i32 v69_0.Players.2.VY, .int .u8 v69_0.Players.2.Health, .int .u8 v69_0.Players.2.Cool, .int .u8 v69_0.Players.2.Face, .slice v69_0a0 v69_0n0 v69_0c0, .int .u16 v69_0.Score.1, .int .u16 v69_0.Score.2]) (val_load tt_ok rfl (List.Mem.tail _ (List.Mem.tail _ (List.Mem.tail _ (List.Mem.tail _ (List.Mem.head _))))) rfl) rfl ?_
      replace h := bsome h; obtain ⟨_, x81, h⟩ := h
      refine wl_cs Tryd.call42 rfl rfl rfl (s_sp (k_hindcastlaw25_spoil_o0 (p0 := v69_0) v69_0N0 v69_0V0 x81) (pApp (Sel.sc (Sel.sc (Sel.sc (Sel.sc (Sel.sc (Sel.sc (Sel.sa (Sel.sa (Sel.sa Sel.ha))))))))) pNil) (fun _ _ => trivial)) rfl ?_
      rintro _ _ ⟨_, ⟨rfl, rfl⟩, rfl⟩
      refine wl_nil (wx_then (wc_seq (wc_region ?_)))
      iterate 2 refine wl_pure tt_ok rfl rfl ?_
      replace h := bsome h; obtain ⟨v87, h, hg87⟩ := h
      refine wl_split (t := 83) rfl (fun hc => ?_) (fun hc => ?_)
      · replace h := ct hc h
        refine wl_run rfl ?_
        refine wl_pure tt_ok rfl rfl ?_
        refine wl_run rfl ?_
        refine wl_pure tt_ok rfl rfl ?_
        refine wl_run rfl ?_
        refine wl_pure (v := .bool (v69_1 == false)) tt_ok rfl rfl ?_
        simp only [Option.some.injEq, Prod.mk.injEq] at h
        obtain rfl := h
        have h := hg87; clear hg87
        refine wl_pure (v := .bool (v69_1 == false)) tt_ok rfl rfl ?_
        refine wl_pure tt_ok rfl rfl ?_
        refine wl_nil (wx_then (wc_ret (wx_block_ret (wx_then_ret ?_))))
        simp only [Option.some.injEq, Prod.mk.injEq] at h
        obtain ⟨rfl, rfl, rfl⟩ := h
        exact wx_spD tt_ok (.inl rfl) Tryd.results18 (Res.tmp rfl Res.nil) ⟨p0g0, p0P0, p1a0, p1n0, p1c0, p1B0, p1g0, p1P0, p0G0, p0A0, p1N0, p1V0, p1G0, p1A0, rfl, rfl⟩ (fun F => by simp) (pSub (pCons (Sel.sc Sel.hc) (pApp (Sel.sc (Sel.sc (Sel.sc (Sel.sc (Sel.sc Sel.ha))))) (pCons (Sel.sc Sel.hc) (pApp (Sel.sc (Sel.sc (Sel.sc (Sel.sc Sel.ha)))) (pApp (Sel.sc (Sel.sc (Sel.sc (Sel.sc Sel.ha)))) pNil))))))
      replace h := cf hc h
      refine wl_skip rfl rfl ?_
      refine wl_skip rfl rfl ?_
      refine wl_skip rfl rfl ?_
      simp only [Option.some.injEq, Prod.mk.injEq] at h
      obtain rfl := h
      have h := hg87; clear hg87
      refine wl_pure (v := .bool false) tt_ok rfl rfl ?_
      refine wl_pure tt_ok rfl rfl ?_
      refine wl_nil (wx_then (wc_ret (wx_block_ret (wx_then_ret ?_))))
      simp only [Option.some.injEq, Prod.mk.injEq] at h
      obtain ⟨rfl, rfl, rfl⟩ := h
      exact wx_spD tt_ok (.inl rfl) Tryd.results18 (Res.tmp rfl Res.nil) ⟨p0g0, p0P0, p1a0, p1n0, p1c0, p1B0, p1g0, p1P0, p0G0, p0A0, p1N0, p1V0, p1G0, p1A0, rfl, rfl⟩ (fun F => by simp) (pSub (pCons (Sel.sc Sel.hc) (pApp (Sel.sc (Sel.sc (Sel.sc (Sel.sc (Sel.sc Sel.ha))))) (pCons (Sel.sc Sel.hc) (pApp (Sel.sc (Sel.sc (Sel.sc (Sel.sc Sel.ha)))) (pApp (Sel.sc (Sel.sc (Sel.sc (Sel.sc Sel.ha)))) pNil))))))
    replace h := cf hc h
    refine wc_skip (wx_then (wc_seq (wc_region ?_)))
    iterate 2 refine wl_pure tt_ok rfl rfl ?_
    refine wl_pure (v := .pointer (some ⟨p1b, 1, none⟩)) tt_ok rfl rfl ?_
    refine wl_val (v := .slice p1a0 p1n0 p1c0) (val_load tt_ok rfl (List.Mem.tail _ (List.Mem.head _)) rfl) rfl ?_
    refine wl_pure tt_ok rfl rfl ?_
    replace h := bsome h; obtain ⟨v200045, x200045, h⟩ := h
    obtain ⟨G200045, y200045⟩ := getI_g p1G0 x200045
    refine wl_val (v := .pointer (some ((adOf p1a0).add (j200009_200004.toNat * 19 + 0)))) (val_ix (enc := cg_T_api_State) tt_ok rfl rfl rfl rfl (len_g p1N0 p1G0) (Rds.of_vec p1V0) cg_T_api_State_len rfl y200045) rfl ?_
    refine wl_val (v := .agg #[.int .u64 v200045.Frame, .int .u64 v200045.Seed, .int .i32 v200045.Players.1.X, .int .i32 v200045.Players.1.Y, .int .i32 v200045.Players.1.VX, .int .i32 v200045.Players.1.VY, .int .u8 v200045.Players.1.Health, .int .u8 v200045.Players.1.Cool, .int .u8 v200045.Players.1.Face, .int .i32 v200045.Players.2.X, .int .i32 v200045.Players.2.Y, .int .i32 v200045.Players.2.VX, .int .i32 v200045.Players.2.VY, .int .u8 v200045.Players.2.Health, .int .u8 v200045.Players.2.Cool, .int .u8 v200045.Players.2.Face, .slice G200045.1 G200045.2.1 G200045.2.2, .int .u16 v200045.Score.1, .int .u16 v200045.Score.2]) (val_le (enc := cg_T_api_State) (xs := p1g0) tt_ok rfl (Rds.of_vec p1V0) ⟨_, (Sel.sc (Sel.sc (Sel.sc (Sel.sc (Sel.sc (Sel.sa Sel.ha))))))⟩ cg_T_api_State_len y200045 rfl) rfl ?_
    apply wl_store tt_ok; rfl; exact (Upd.there (Upd.there (Upd.there (Upd.there Upd.here)))); rfl; rfl; rfl; rfl; rfl; rfl
    refine wl_pure tt_ok rfl rfl ?_
    refine wl_nil (wx_then (wc_ret ?_))
    refine wx_inl (v := .tuple #[.agg #[.int .u64 v200045.Frame, .int .u64 v200045.Seed, .int .i32 v200045.Players.1.X, .int .i32 v200045.Players.1.Y, .int .i32 v200045.Players.1.VX, .int .i32 v200045.Players.1.VY, .int .u8 v200045.Players.1.Health, .int .u8 v200045.Players.1.Cool, .int .u8 v200045.Players.1.Face, .int .i32 v200045.Players.2.X, .int .i32 v200045.Players.2.Y, .int .i32 v200045.Players.2.VX, .int .i32 v200045.Players.2.VY, .int .u8 v200045.Players.2.Health, .int .u8 v200045.Players.2.Cool, .int .u8 v200045.Players.2.Face, .slice G200045.1 G200045.2.1 G200045.2.2, .int .u16 v200045.Score.1, .int .u16 v200045.Score.2], .bool true]) tt_ok (.inl rfl) Tryd.results46 (Res.cell rfl (List.Mem.tail _ (List.Mem.tail _ (List.Mem.tail _ (List.Mem.tail _ (List.Mem.head _))))) rfl (Res.tmp rfl Res.nil)) rfl ?_
    iterate 3 refine wl_pure tt_ok rfl rfl ?_
    refine wl_alloc tt_ok rfl rfl (fun b16 => ?_)
    apply wl_store tt_ok; rfl; exact Upd.here; rfl; rfl; rfl; rfl; rfl; rfl
    refine wl_pure tt_ok rfl rfl ?_
    refine wl_nil (wx_then (wc_seq (wc_region ?_)))
    refine wl_val (v := .agg #[.int .u64 v69_0.Frame, .int .u64 v69_0.Seed, .int .i32 v69_0.Players.1.X, .int .i32 v69_0.Players.1.Y, .int .i32 v69_0.Players.1.VX, .int .i32 v69_0.Players.1.VY, .int .u8 v69_0.Players.1.Health, .int .u8 v69_0.Players.1.Cool, .int .u8 v69_0.Players.1.Face, .int .i32 v69_0.Players.2.X, .int .i32 v69_0.Players.2.Y, .int .i32 v69_0.Players.2.VX, .int .i32 v69_0.Players.2.VY, .int .u8 v69_0.Players.2.Health, .int .u8 v69_0.Players.2.Cool, .int .u8 v69_0.Players.2.Face, .slice v69_0a0 v69_0n0 v69_0c0, .int .u16 v69_0.Score.1, .int .u16 v69_0.Score.2]) (val_load tt_ok rfl (List.Mem.tail _ (List.Mem.tail _ (List.Mem.tail _ (List.Mem.tail _ (List.Mem.head _))))) rfl) rfl ?_
    refine wl_val (v := .agg #[.int .u64 v200045.Frame, .int .u64 v200045.Seed, .int .i32 v200045.Players.1.X, .int .i32 v200045.Players.1.Y, .int .i32 v200045.Players.1.VX, .int .i32 v200045.Players.1.VY, .int .u8 v200045.Players.1.Health, .int .u8 v200045.Players.1.Cool, .int .u8 v200045.Players.1.Face, .int .i32 v200045.Players.2.X, .int .i32 v200045.Players.2.Y, .int .i32 v200045.Players.2.VX, .int .i32 v200045.Players.2.VY, .int .u8 v200045.Players.2.Health, .int .u8 v200045.Players.2.Cool, .int .u8 v200045.Players.2.Face, .slice G200045.1 G200045.2.1 G200045.2.2, .int .u16 v200045.Score.1, .int .u16 v200045.Score.2]) (val_load tt_ok rfl (List.Mem.head _) rfl) rfl ?_
    replace h := bsome h; obtain ⟨v79, x79, h⟩ := h
    refine wl_cq Tryd.call45 rfl rfl rfl (q_pf (k_hindcastref08_Same (p0 := v69_0) (p1 := v200045) v69_0N0 (vec_cap v69_0V0) (allrd_get (p1A0 w0 (ids (⟨p0b, ([.int .i64 p0.size] ++ flat cg_T_ring_place p0g0), p0t, (0, 0)⟩ :: (p0P0 ++ (⟨p1b, [.int .i64 p1.Size, .slice p1a0 p1n0 p1c0], p1t, (0, 0)⟩ :: (p1B0 ++ (p1P0 ++ []))))))) y200045).1 (allrd_get (p1A0 w0 (ids (⟨p0b, ([.int .i64 p0.size] ++ flat cg_T_ring_place p0g0), p0t, (0, 0)⟩ :: (p0P0 ++ (⟨p1b, [.int .i64 p1.Size, .slice p1a0 p1n0 p1c0], p1t, (0, 0)⟩ :: (p1B0 ++ (p1P0 ++ []))))))) y200045).2.1 x79) (fun w hI => ⟨(Rds.call (Rds.of_vec v69_0V0) pNil ⟨_, (Sel.sc (Sel.sc (Sel.sc (Sel.sc (Sel.sc (Sel.sc (Sel.sa (Sel.sa (Sel.sa Sel.ha)))))))))⟩) w hI, (Rds.call (allrd_get (p1A0 w0 (ids (⟨p0b, ([.int .i64 p0.size] ++ flat cg_T_ring_place p0g0), p0t, (0, 0)⟩ :: (p0P0 ++ (⟨p1b, [.int .i64 p1.Size, .slice p1a0 p1n0 p1c0], p1t, (0, 0)⟩ :: (p1B0 ++ (p1P0 ++ []))))))) y200045).2.2.1 pNil ⟨_, (Sel.sc (Sel.sc (Sel.sc (Sel.sc (Sel.sc (Sel.sc (Sel.sa (Sel.sa Sel.ha))))))))⟩) w hI⟩)) rfl ?_
    refine wl_pure tt_ok rfl rfl ?_
    refine wl_nil (wx_then (wc_seq (wc_region ?_)))
    refine wl_val (v := .agg #[.int .u64 v69_0.Frame, .int .u64 v69_0.Seed, .int .i32 v69_0.Players.1.X, .int .i32 v69_0.Players.1.Y, .int .i32 v69_0.Players.1.VX, .int .i32 v69_0.Players.1.VY, .int .u8 v69_0.Players.1.Health, .int .u8 v69_0.Players.1.Cool, .int .u8 v69_0.Players.1.Face, .int .i32 v69_0.Players.2.X, .int .i32 v69_0.Players.2.Y, .int .i32 v69_0.Players.2.VX, .int .i32 v69_0.Players.2.VY, .int .u8 v69_0.Players.2.Health, .int .u8 v69_0.Players.2.Cool, .int .u8 v69_0.Players.2.Face, .slice v69_0a0 v69_0n0 v69_0c0, .int .u16 v69_0.Score.1, .int .u16 v69_0.Score.2]) (val_load tt_ok rfl (List.Mem.tail _ (List.Mem.tail _ (List.Mem.tail _ (List.Mem.tail _ (List.Mem.head _))))) rfl) rfl ?_
    replace h := bsome h; obtain ⟨_, x81, h⟩ := h
    refine wl_cs Tryd.call42 rfl rfl rfl (s_sp (k_hindcastlaw25_spoil_o0 (p0 := v69_0) v69_0N0 v69_0V0 x81) (pApp (Sel.sc (Sel.sc (Sel.sc (Sel.sc (Sel.sc (Sel.sc (Sel.sa (Sel.sa (Sel.sa Sel.ha))))))))) pNil) (fun _ _ => trivial)) rfl ?_
    rintro _ _ ⟨_, ⟨rfl, rfl⟩, rfl⟩
    refine wl_nil (wx_then (wc_seq (wc_region ?_)))
    iterate 2 refine wl_pure tt_ok rfl rfl ?_
    replace h := bsome h; obtain ⟨v87, h, hg87⟩ := h
    refine wl_split (t := 83) rfl (fun hc => ?_) (fun hc => ?_)
    · replace h := ct hc h
      refine wl_run rfl ?_
      refine wl_pure tt_ok rfl rfl ?_
      refine wl_run rfl ?_
      refine wl_pure tt_ok rfl rfl ?_
      refine wl_run rfl ?_
      refine wl_pure (v := .bool (v69_1 == true)) tt_ok rfl rfl ?_
      simp only [Option.some.injEq, Prod.mk.injEq] at h
      obtain rfl := h
      have h := hg87; clear hg87
      refine wl_pure (v := .bool (v69_1 == true)) tt_ok rfl rfl ?_
      refine wl_pure tt_ok rfl rfl ?_
      refine wl_nil (wx_then (wc_ret (wx_block_ret (wx_then_ret ?_))))
      simp only [Option.some.injEq, Prod.mk.injEq] at h
      obtain ⟨rfl, rfl, rfl⟩ := h
      exact wx_spD tt_ok (.inl rfl) Tryd.results18 (Res.tmp rfl Res.nil) ⟨p0g0, p0P0, p1a0, p1n0, p1c0, p1B0, p1g0, p1P0, p0G0, p0A0, p1N0, p1V0, p1G0, p1A0, rfl, rfl⟩ (fun F => by simp) (pSub (pCons (Sel.sc Sel.hc) (pApp (Sel.sc (Sel.sc (Sel.sc (Sel.sc (Sel.sc Sel.ha))))) (pCons (Sel.sc Sel.hc) (pApp (Sel.sc (Sel.sc (Sel.sc (Sel.sc Sel.ha)))) (pApp (Sel.sc (Sel.sc (Sel.sc (Sel.sc Sel.ha)))) pNil))))))
    replace h := cf hc h
    refine wl_skip rfl rfl ?_
    refine wl_skip rfl rfl ?_
    refine wl_skip rfl rfl ?_
    simp only [Option.some.injEq, Prod.mk.injEq] at h
    obtain rfl := h
    have h := hg87; clear hg87
    refine wl_pure (v := .bool false) tt_ok rfl rfl ?_
    refine wl_pure tt_ok rfl rfl ?_
    refine wl_nil (wx_then (wc_ret (wx_block_ret (wx_then_ret ?_))))
    simp only [Option.some.injEq, Prod.mk.injEq] at h
    obtain ⟨rfl, rfl, rfl⟩ := h
    exact wx_spD tt_ok (.inl rfl) Tryd.results18 (Res.tmp rfl Res.nil) ⟨p0g0, p0P0, p1a0, p1n0, p1c0, p1B0, p1g0, p1P0, p0G0, p0A0, p1N0, p1V0, p1G0, p1A0, rfl, rfl⟩ (fun F => by simp) (pSub (pCons (Sel.sc Sel.hc) (pApp (Sel.sc (Sel.sc (Sel.sc (Sel.sc (Sel.sc Sel.ha))))) (pCons (Sel.sc Sel.hc) (pApp (Sel.sc (Sel.sc (Sel.sc (Sel.sc Sel.ha)))) (pApp (Sel.sc (Sel.sc (Sel.sc (Sel.sc Sel.ha)))) pNil))))))
  replace h := cf hc h
  refine wc_skip (wx_block (wx_then (wc_seq ?_)))
  refine wc_k2 (Ls := (⟨b5, [.int .u8 p2.What, .int .u64 p2.S.Frame, .int .u64 p2.S.Seed, .int .i32 p2.S.Players.1.X, .int .i32 p2.S.Players.1.Y, .int .i32 p2.S.Players.1.VX, .int .i32 p2.S.Players.1.VY, .int .u8 p2.S.Players.1.Health, .int .u8 p2.S.Players.1.Cool, .int .u8 p2.S.Players.1.Face, .int .i32 p2.S.Players.2.X, .int .i32 p2.S.Players.2.Y, .int .i32 p2.S.Players.2.VX, .int .i32 p2.S.Players.2.VY, .int .u8 p2.S.Players.2.Health, .int .u8 p2.S.Players.2.Cool, .int .u8 p2.S.Players.2.Face, .slice p2a0 p2n0 p2c0, .int .u16 p2.S.Score.1, .int .u16 p2.S.Score.2, .int .u64 p2.F], 58, (0, 0)⟩ :: (⟨p1b, [.int .i64 p1.Size, .slice p1a0 p1n0 p1c0], p1t, (0, 0)⟩ :: (p1B0 ++ (p1P0 ++ []))))) [3, 7, 8, 9] [7, 8, 9] [0, 0, 2, 7, 0, 0, 32, 127, 255, 511] [0, 1, 2, 4, 5, 6, 3, 7, 8, 9] (by kernel_rfl) (by kernel_rfl) (by kernel_rfl) ?_
  refine k_val rfl rfl rfl (pSub (pCons Sel.hc (pCons (Sel.sc (Sel.sa Sel.hc)) (pApp (Sel.sc (Sel.sa Sel.ha)) (pApp (Sel.sc (Sel.sa Sel.ha)) pNil))))) (stepV_ok tt_ok rfl) rfl ?_
  refine k_val (v := .pointer (some ⟨b5, 20, none⟩)) rfl rfl rfl (pSub (pCons Sel.hc (pCons (Sel.sc (Sel.sa Sel.hc)) (pApp (Sel.sc (Sel.sa Sel.ha)) (pApp (Sel.sc (Sel.sa Sel.ha)) pNil))))) (stepV_ok tt_ok rfl) rfl ?_
  refine k_val (v := .int .u64 p2.F) rfl rfl rfl (pSub (pCons Sel.hc (pCons (Sel.sc (Sel.sa Sel.hc)) (pApp (Sel.sc (Sel.sa Sel.ha)) (pApp (Sel.sc (Sel.sa Sel.ha)) pNil))))) (val_load tt_ok rfl (List.Mem.head _) rfl) rfl ?_
  refine k_val rfl rfl rfl (pSub (pCons Sel.hc (pCons (Sel.sc (Sel.sa Sel.hc)) (pApp (Sel.sc (Sel.sa Sel.ha)) (pApp (Sel.sc (Sel.sa Sel.ha)) pNil))))) (stepV_ok tt_ok rfl) rfl ?_
  refine k_val (v := .pointer (some ⟨b5, 20, none⟩)) rfl rfl rfl (pSub (pCons Sel.hc (pCons (Sel.sc (Sel.sa Sel.hc)) (pApp (Sel.sc (Sel.sa Sel.ha)) (pApp (Sel.sc (Sel.sa Sel.ha)) pNil))))) (stepV_ok tt_ok rfl) rfl ?_
  refine k_val (v := .int .u64 p2.F) rfl rfl rfl (pSub (pCons Sel.hc (pCons (Sel.sc (Sel.sa Sel.hc)) (pApp (Sel.sc (Sel.sa Sel.ha)) (pApp (Sel.sc (Sel.sa Sel.ha)) pNil))))) (val_load tt_ok rfl (List.Mem.head _) rfl) rfl ?_
  replace h := bsome h; obtain ⟨⟨o91_0, v91⟩, x91, h⟩ := h; try dsimp only at h
  refine k_cs rfl rfl rfl Tryd.call20 rfl rfl rfl (s_sp (k_ring_Ring_Cut (p0 := p0) p0G0 p0A0 x91) (pCons (Sel.sc Sel.hc) (pApp (Sel.sc Sel.ha) pNil)) (fun _ _ => trivial)) rfl (.inr (by rintro _ _ ⟨_, ⟨_, _, _, _, rfl, rfl⟩, rfl⟩; exact ⟨_, (pCons (Sel.sc (Sel.sa Sel.hc)) (pCons (Sel.sc (Sel.sa Sel.hc)) (pApp (Sel.sc (Sel.sa Sel.ha)) (pApp (Sel.sc (Sel.sa Sel.ha)) pNil))))⟩)) ?_
  rintro _ _ ⟨_, ⟨o91_0g0, o91_0P0, o91_0G0, o91_0A0, rfl, rfl⟩, rfl⟩
  replace h := bsome h; obtain ⟨⟨o95_0, v95⟩, x95, h⟩ := h; try dsimp only at h
  refine k_cs rfl rfl rfl Tryd.call47 rfl rfl rfl (s_sp (k_hindcastref25_Ring_Cut (p0 := p1) p1N0 p1V0 p1G0 p1A0 x95) (pCons (Sel.sc (Sel.sa (Sel.sc Sel.hc))) (pApp (Sel.sc (Sel.sa (Sel.sc Sel.ha))) (pApp (Sel.sc (Sel.sa (Sel.sc Sel.ha))) pNil))) (fun _ _ => trivial)) rfl (.inl rfl) ?_
  rintro _ _ ⟨_, ⟨o95_0a0, o95_0n0, o95_0c0, o95_0B0, o95_0g0, o95_0P0, o95_0N0, o95_0V0, o95_0G0, o95_0A0, rfl, rfl⟩, rfl⟩
  refine k_chg rfl rfl rfl (Chg.of_val (v := .bool (v91 == v95)) (stepV_ok tt_ok rfl)) rfl (.inl rfl) ?_
  rintro _ _ ⟨rfl, rfl⟩
  refine k_chg rfl rfl rfl (Chg.of_val (stepV_ok tt_ok rfl)) rfl (.inl rfl) ?_
  rintro _ _ ⟨rfl, rfl⟩
  refine k_end (by kernel_rfl) ?_
  refine wx_then (wc_ret ?_)
  simp only [Option.some.injEq, Prod.mk.injEq] at h
  obtain ⟨rfl, rfl, rfl⟩ := h
  exact wx_spD tt_ok (.inl rfl) Tryd.results18 (Res.tmp rfl Res.nil) ⟨o91_0g0, o91_0P0, o95_0a0, o95_0n0, o95_0c0, o95_0B0, o95_0g0, o95_0P0, o91_0G0, o91_0A0, o95_0N0, o95_0V0, o95_0G0, o95_0A0, rfl, rfl⟩ (fun F => by simp) (pSub (pCons (Sel.sc (Sel.sa (Sel.sa Sel.hc))) (pApp (Sel.sc (Sel.sa (Sel.sa Sel.ha))) (pCons Sel.hc (pApp Sel.ha (pApp Sel.ha pNil))))))

theorem k_hindcastlaw25_RingPlays {F : Nat} {p0 : Int} {p1 : (List T_hindcastlaw25_Act)} {p1a0 : Option Addr} {p1n0 p1c0 : Nat} {p1g0 : List (T_hindcastlaw25_Act × G)} {r0 : Bool} (p1N0 : p1n0 = p1.length) (p1H0 : p1n0 ≤ p1c0) (p1G0 : p1 = unG p1g0) (h : m_hindcastlaw25_RingPlays F p0 p1 = some r0) :
    Pf Tryd.prog 4 [.int .i64 p0, .slice p1a0 p1n0 p1c0] (fun w => Rds w [] [] p1a0 (flat cg_T_hindcastlaw25_Act p1g0) ∧ AllRd sh_T_hindcastlaw25_Act c_T_api_Shot w [] [] p1g0 ∧ Rds w [] [] (some ⟨0, 0, none⟩) (flat (fun _ : Unit => gl_state_playerBounds) [()]) ∧ Rds w [] [] (some ⟨1, 0, none⟩) (flat (fun _ : Unit => gl_state_shotBounds) [()])) (.bool r0) := by
  unfold m_hindcastlaw25_RingPlays at h
  refine pf_of_wc Tryd.func4 rfl Tryd.ntmps4 rfl rfl (fun w0 hR => ?_)
  obtain ⟨p1S0, p1A0, G0S, G1S⟩ := hR
  refine wc_seq (wc_region ?_)
  refine wl_pure tt_ok rfl rfl ?_
  refine wl_nil (wx_then (wc_seq (wc_region ?_)))
  refine wl_pure tt_ok rfl rfl ?_
  replace h := bsome h; obtain ⟨v9, x9, h⟩ := h
  rcases v9 with _ | v9s
  · replace h := poN h
    refine wl_cs Tryd.call6 rfl rfl rfl (s_sp (k_ring_New_none x9) pNil (fun _ _ => trivial)) rfl ?_
    rintro _ _ ⟨_, ⟨rfl, rfl⟩, rfl⟩
    refine wl_pure tt_ok rfl rfl ?_
    refine wl_nil (wx_then (wc_seq (wc_seq (wc_region ?_))))
    refine wl_pure tt_ok rfl rfl ?_
    replace h := bsome h; obtain ⟨v11, x11, h⟩ := h
    refine wl_cq Tryd.call16 rfl rfl rfl (q_pf (k_hindcastref25_May x11) (fun _ _ => trivial)) rfl ?_
    refine wl_pure (v := .bool (!v11)) tt_ok rfl rfl ?_
    refine wl_nil (wx_then ?_)
    refine wc_cond rfl (fun hc => ?_) (fun hc => ?_)
    · replace h := ct hc h
      refine wc_seq (wc_region ?_)
      refine wl_pure tt_ok rfl rfl ?_
      refine wl_pure (v := .bool true) tt_ok rfl rfl ?_
      refine wl_pure tt_ok rfl rfl ?_
      replace h := bsome h; obtain ⟨v16, x16, h⟩ := h
      refine wl_run rfl ?_
      refine wl_cq Tryd.call7 rfl rfl rfl (q_pf (k_hindcastlaw25_awake x16) (fun w hI => ⟨(Rds.call G0S pNil rsub_nil) w hI, (Rds.call G1S pNil rsub_nil) w hI⟩)) rfl ?_
      refine wl_pure (v := .bool v16) tt_ok rfl rfl ?_
      refine wl_pure tt_ok rfl rfl ?_
      refine wl_nil (wx_then (wc_ret (wx_then_ret ?_)))
      simp only [Option.some.injEq] at h
      obtain rfl := h
      exact wx_pf tt_ok (.inl rfl) Tryd.results4 (Res.tmp rfl Res.nil) rfl
    replace h := cf hc h
    refine wc_skip (wx_then (wc_seq (wc_seq (wc_region ?_))))
    refine wl_pure tt_ok rfl rfl ?_
    refine wl_pure (v := .bool true) tt_ok rfl rfl ?_
    refine wl_nil (wx_then ?_)
    refine wc_cond_true rfl ?_
    refine wc_seq (wc_region ?_)
    refine wl_pure tt_ok rfl rfl ?_
    refine wl_nil (wx_then (wc_ret (wx_then_ret ?_)))
    simp only [Option.some.injEq] at h
    obtain rfl := h
    exact wx_pf tt_ok (.inl rfl) Tryd.results4 (Res.tmp rfl Res.nil) rfl
  replace h := poS h
  refine wl_cs Tryd.call6 rfl rfl rfl (s_sp (k_ring_New x9) pNil (fun _ _ => trivial)) rfl ?_
  rintro _ _ ⟨_, ⟨b9_0, v9sg0, v9sP0, v9sG0, v9sA0, rfl, rfl⟩, rfl⟩
  refine wl_pure tt_ok rfl rfl ?_
  refine wl_nil (wx_then (wc_seq (wc_seq (wc_region ?_))))
  refine wl_pure tt_ok rfl rfl ?_
  replace h := bsome h; obtain ⟨v11, x11, h⟩ := h
  refine wl_cq Tryd.call16 rfl rfl rfl (q_pf (k_hindcastref25_May x11) (fun _ _ => trivial)) rfl ?_
  refine wl_pure (v := .bool (!v11)) tt_ok rfl rfl ?_
  refine wl_nil (wx_then ?_)
  refine wc_cond rfl (fun hc => ?_) (fun hc => ?_)
  · replace h := ct hc h
    refine wc_seq (wc_region ?_)
    refine wl_pure tt_ok rfl rfl ?_
    refine wl_pure (v := .bool false) tt_ok rfl rfl ?_
    refine wl_pure tt_ok rfl rfl ?_
    refine wl_skip rfl rfl ?_
    refine wl_pure (v := .bool false) tt_ok rfl rfl ?_
    refine wl_pure tt_ok rfl rfl ?_
    refine wl_nil (wx_then (wc_ret (wx_then_ret ?_)))
    simp only [Option.some.injEq] at h
    obtain rfl := h
    exact wx_pf tt_ok (.inl rfl) Tryd.results4 (Res.tmp rfl Res.nil) rfl
  replace h := cf hc h
  refine wc_skip (wx_then (wc_seq (wc_seq (wc_region ?_))))
  refine wl_pure tt_ok rfl rfl ?_
  refine wl_pure (v := .bool false) tt_ok rfl rfl ?_
  refine wl_nil (wx_then ?_)
  refine wc_cond_false rfl ?_
  refine wc_skip (wx_then (wc_seq (wc_seq (wc_region ?_))))
  refine wl_pure tt_ok rfl rfl ?_
  replace h := bsome h; obtain ⟨v21, x21, h⟩ := h
  refine wl_cq Tryd.call17 rfl rfl rfl (q_pf (k_hindcastlaw25_few (p0 := p1) p1N0 p1H0 p1G0 x21) (fun w hI => ⟨(Rds.call p1S0 pNil rsub_nil) w hI, (AllRd.call p1A0 pNil rsub_nil) w hI⟩)) rfl ?_
  refine wl_pure (v := .bool (!v21)) tt_ok rfl rfl ?_
  refine wl_nil (wx_then ?_)
  refine wc_cond rfl (fun hc => ?_) (fun hc => ?_)
  · replace h := ct hc h
    refine wc_seq (wc_region ?_)
    replace h := bsome h; obtain ⟨v23, x23, h⟩ := h
    refine wl_cq Tryd.call7 rfl rfl rfl (q_pf (k_hindcastlaw25_awake x23) (fun w hI => ⟨(Rds.call G0S pNil rsub_nil) w hI, (Rds.call G1S pNil rsub_nil) w hI⟩)) rfl ?_
    refine wl_pure tt_ok rfl rfl ?_
    refine wl_nil (wx_then (wc_ret (wx_then_ret ?_)))
    simp only [Option.some.injEq] at h
    obtain rfl := h
    exact wx_pf tt_ok (.inl rfl) Tryd.results4 (Res.tmp rfl Res.nil) rfl
  replace h := cf hc h
  refine wc_skip (wx_then (wc_seq (wc_region ?_)))
  refine wl_pure tt_ok rfl rfl ?_
  refine wl_pure (v := .agg #[.int .i64 p0, .slice none 0 0]) tt_ok rfl rfl ?_
  refine wl_box rfl rfl rfl (fun b26 => ?_)
  refine wl_pure tt_ok rfl rfl ?_
  refine wl_nil (wx_then (wc_seq (wc_seq (wc_region ?_))))
  refine wl_pure tt_ok rfl rfl ?_
  refine wl_nil (wx_then (wc_block ?_))
  replace h := bsome h; obtain ⟨o35, h, hl35⟩ := h
  refine wc_loop (fun m E L => ∃ (j35_7 : Int) (j35_n9_0_f0 : Int) (j35_n9_0_f1 : (Arr T_ring_place 14)) (j35_n26_f0 : Int) (j35_n26_f1 : (List T_api_State)) (j35_n9_0_f1g0 : List (T_ring_place × G)) (j35_n9_0_f1P0 : List Blk) (j35_n26_f1a0 : Option Addr) (j35_n26_f1n0 : Nat) (j35_n26_f1c0 : Nat) (j35_n26_f1B0 : List Blk) (j35_n26_f1g0 : List (T_api_State × G)) (j35_n26_f1P0 : List Blk), m_hindcastlaw25_RingPlays_L34 F p1 m j35_7 j35_n9_0_f0 j35_n9_0_f1 j35_n26_f0 j35_n26_f1 = some o35 ∧ j35_n9_0_f1.1 = unG j35_n9_0_f1g0 ∧ AllP sh_T_ring_place c_T_api_Shot j35_n9_0_f1P0 j35_n9_0_f1g0 ∧ j35_n26_f1n0 = j35_n26_f1.length ∧ Own 30 19 j35_n26_f1a0 j35_n26_f1n0 j35_n26_f1c0 (flat cg_T_api_State j35_n26_f1g0) j35_n26_f1B0 ∧ j35_n26_f1 = unG j35_n26_f1g0 ∧ AllP sh_T_api_State c_T_api_Shot j35_n26_f1P0 j35_n26_f1g0 ∧ E = [(1, .slice p1a0 p1n0 p1c0), (4, .bool false), (5, .pointer (some ⟨b9_0, 0, none⟩)), (6, .pointer (some ⟨b26, 0, none⟩)), (7, .int .i64 j35_7)] ∧ L = (⟨b9_0, ([.int .i64 j35_n9_0_f0] ++ flat cg_T_ring_place j35_n9_0_f1g0), 66, (0, 0)⟩ :: (⟨b26, [.int .i64 j35_n26_f0, .slice j35_n26_f1a0 j35_n26_f1n0 j35_n26_f1c0], 55, (0, 0)⟩ :: (j35_n9_0_f1P0 ++ (j35_n26_f1B0 ++ (j35_n26_f1P0 ++ [])))))) F ⟨(0 : Int), v9s.size, v9s.places, p0, ([] : List T_api_State), v9sg0, v9sP0, none, 0, 0, [], ([] : List (T_api_State × G)), [], h, v9sG0, v9sA0, rfl, Own.zero, rfl, (fun _ _ => allrd_nil), rfl, rfl⟩ (agree_cons rfl (agree_cons rfl (agree_cons rfl (agree_cons rfl (agree_cons rfl agree_nil))))) (pSub (pCons (Sel.sc Sel.hc) (pCons Sel.hc (pApp Sel.ha (pNo (pNo pNil)))))) ?_
  clear h
  rintro m35 _ _ ⟨j35_7, j35_n9_0_f0, j35_n9_0_f1, j35_n26_f0, j35_n26_f1, j35_n9_0_f1g0, j35_n9_0_f1P0, j35_n26_f1a0, j35_n26_f1n0, j35_n26_f1c0, j35_n26_f1B0, j35_n26_f1g0, j35_n26_f1P0, h, j35_n9_0_f1G0, j35_n9_0_f1A0, j35_n26_f1N0, j35_n26_f1V0, j35_n26_f1G0, j35_n26_f1A0, rfl, rfl⟩
  rcases m35 with _ | m35
  · rw [m_hindcastlaw25_RingPlays_L34.eq_1] at h; cases h
  rw [m_hindcastlaw25_RingPlays_L34.eq_2] at h
  refine wc_seq (wc_seq (wc_region ?_))
  iterate 2 refine wl_pure tt_ok rfl rfl ?_
  refine wl_val (v := .int .i64 (p1.length : Int)) (val_len tt_ok rfl rfl p1N0) rfl ?_
  refine wl_pure (v := .bool (decide (j35_7 < (p1.length : Int)))) tt_ok rfl rfl ?_
  refine wl_nil (wx_then ?_)
  refine wc_cond rfl (fun hc => ?_) (fun hc => ?_)
  · replace h := ct hc h
    refine wc_skip (wx_then (wc_seq (wc_block (wc_seq ?_))))
    refine wc_k2 (Ls := []) [6, 10] [] [0, 0, 0, 0, 12, 28, 63, 127, 255, 511, 1023, 511, 2559, 6655, 14847, 31231, 65535, 131071] [0, 1, 2, 3, 4, 5, 6, 7, 8, 9, 11, 12, 13, 14, 15, 10, 16, 17] (by kernel_rfl) (by kernel_rfl) (by kernel_rfl) ?_
    refine k_val rfl rfl rfl (pSub pNil) (stepV_ok tt_ok rfl) rfl ?_
    refine k_val rfl rfl rfl (pSub pNil) (stepV_ok tt_ok rfl) rfl ?_
    refine k_val rfl rfl rfl (pSub pNil) (stepV_ok tt_ok rfl) rfl ?_
    refine k_val rfl rfl rfl (pSub pNil) (stepV_ok tt_ok rfl) rfl ?_
    replace h := bsome h; obtain ⟨v37, x37, h⟩ := h
    obtain ⟨G37, y37⟩ := getI_g p1G0 x37
    refine k_val (v := .pointer (some ((adOf p1a0).add (j35_7.toNat * 21 + 0)))) rfl rfl rfl (pSub pNil) (val_ix (enc := cg_T_hindcastlaw25_Act) tt_ok rfl rfl rfl rfl (len_g p1N0 p1G0) p1S0 cg_T_hindcastlaw25_Act_len rfl y37) rfl ?_
    refine k_val (v := .agg #[.int .u8 v37.What, .int .u64 v37.S.Frame, .int .u64 v37.S.Seed, .int .i32 v37.S.Players.1.X, .int .i32 v37.S.Players.1.Y, .int .i32 v37.S.Players.1.VX, .int .i32 v37.S.Players.1.VY, .int .u8 v37.S.Players.1.Health, .int .u8 v37.S.Players.1.Cool, .int .u8 v37.S.Players.1.Face, .int .i32 v37.S.Players.2.X, .int .i32 v37.S.Players.2.Y, .int .i32 v37.S.Players.2.VX, .int .i32 v37.S.Players.2.VY, .int .u8 v37.S.Players.2.Health, .int .u8 v37.S.Players.2.Cool, .int .u8 v37.S.Players.2.Face, .slice G37.1 G37.2.1 G37.2.2, .int .u16 v37.S.Score.1, .int .u16 v37.S.Score.2, .int .u64 v37.F]) rfl rfl rfl (pSub pNil) (val_le (enc := cg_T_hindcastlaw25_Act) (xs := p1g0) tt_ok rfl p1S0 rsub_nil cg_T_hindcastlaw25_Act_len y37 rfl) rfl ?_
    replace h := bsome h; obtain ⟨⟨o39_0, o39_1, v39⟩, x39, h⟩ := h; try dsimp only at h
    refine k_cs rfl rfl rfl Tryd.call18 rfl rfl rfl (s_sp (k_hindcastlaw25_one (p0 := (T_ring_Ring.mk j35_n9_0_f0 j35_n9_0_f1)) (p1 := (T_hindcastref25_Ring.mk j35_n26_f0 j35_n26_f1)) (p2 := v37) j35_n9_0_f1G0 j35_n9_0_f1A0 j35_n26_f1N0 j35_n26_f1V0 j35_n26_f1G0 j35_n26_f1A0 (allrd_get p1A0 y37).1 (allrd_get p1A0 y37).2.1 x39) (pCons Sel.hc (pApp (Sel.sc Sel.ha) (pCons Sel.hc (pApp Sel.ha (pApp Sel.ha pNil))))) (fun w hI => ⟨(Rds.call (allrd_get p1A0 y37).2.2.1 (pCons Sel.hc (pApp (Sel.sc Sel.ha) (pCons Sel.hc (pApp Sel.ha (pApp Sel.ha pNil))))) rsub_nil) w hI, (Rds.call G0S (pCons Sel.hc (pApp (Sel.sc Sel.ha) (pCons Sel.hc (pApp Sel.ha (pApp Sel.ha pNil))))) rsub_nil) w hI, (Rds.call G1S (pCons Sel.hc (pApp (Sel.sc Sel.ha) (pCons Sel.hc (pApp Sel.ha (pApp Sel.ha pNil))))) rsub_nil) w hI⟩)) rfl (.inr (by rintro _ _ ⟨_, ⟨_, _, _, _, _, _, _, _, _, _, _, _, _, _, rfl, rfl⟩, rfl⟩; exact ⟨_, pNil⟩)) ?_
    rintro _ _ ⟨_, ⟨o39_0g0, o39_0P0, o39_1a0, o39_1n0, o39_1c0, o39_1B0, o39_1g0, o39_1P0, o39_0G0, o39_0A0, o39_1N0, o39_1V0, o39_1G0, o39_1A0, rfl, rfl⟩, rfl⟩
    refine k_val (v := .bool (!v39)) rfl rfl rfl (pSub pNil) (stepV_ok tt_ok rfl) rfl ?_
    refine k_val rfl rfl rfl (pSub pNil) (stepV_ok tt_ok rfl) rfl ?_
    replace h := bsome h; obtain ⟨v50, h, hg50⟩ := h
    refine k_split (t := 41) rfl (fun hc => ?_) (fun hc => ?_)
    · replace h := ct hc h
      refine k_skip rfl rfl (pSub pNil) rfl ?_
      refine k_skip rfl rfl (pSub pNil) rfl ?_
      refine k_skip rfl rfl (pSub pNil) rfl ?_
      refine k_skip rfl rfl (pSub pNil) rfl ?_
      refine k_skip rfl rfl (pSub pNil) rfl ?_
      refine k_skip rfl rfl (pSub pNil) rfl ?_
      refine k_skip rfl rfl (pSub pNil) rfl ?_
      refine k_skip rfl rfl (pSub pNil) rfl ?_
      simp only [Option.some.injEq, Prod.mk.injEq] at h
      obtain rfl := h
      have h := hg50; clear hg50
      refine k_val (v := .bool true) rfl rfl rfl (pSub pNil) (stepV_ok tt_ok rfl) rfl ?_
      refine k_end (by kernel_rfl) ?_
      refine wx_then ?_
      replace h := ct rfl h
      refine wc_cond_true rfl ?_
      refine wc_seq (wc_region ?_)
      refine wl_pure tt_ok rfl rfl ?_
      refine wl_nil (wx_then (wc_ret (wx_block_ret (wx_then_ret ?_))))
      obtain rfl := Option.some.inj h
      have h := hl35; clear hl35; try dsimp only [orE_l, orE_r] at h
      refine wx_then_ret (wx_block_ret (wx_then_ret ?_))
      simp only [Option.some.injEq] at h
      obtain rfl := h
      exact wx_pf tt_ok (.inl rfl) Tryd.results4 (Res.tmp rfl Res.nil) rfl
    replace h := cf hc h
    refine k_val rfl rfl rfl (pSub pNil) (stepV_ok tt_ok rfl) rfl ?_
    refine k_val rfl rfl rfl (pSub pNil) (stepV_ok tt_ok rfl) rfl ?_
    refine k_val rfl rfl rfl (pSub pNil) (stepV_ok tt_ok rfl) rfl ?_
    refine k_val (v := .pointer (some ⟨b26, 1, none⟩)) rfl rfl rfl (pSub pNil) (stepV_ok tt_ok rfl) rfl ?_
    refine k_ls (Ls' := (⟨b26, [.int .i64 o39_1.Size, .slice o39_1a0 o39_1n0 o39_1c0], 55, (0, 0)⟩ :: [])) (pSub pNil) ?_
    refine k_val (v := .slice o39_1a0 o39_1n0 o39_1c0) rfl rfl rfl (pSub (pCons (Sel.sc (Sel.sa Sel.hc)) pNil)) (val_load tt_ok rfl (List.Mem.head _) rfl) rfl ?_
    refine k_val (v := .int .i64 (o39_1.L.length : Int)) rfl rfl rfl (pSub (pCons (Sel.sc (Sel.sa Sel.hc)) pNil)) (val_len tt_ok rfl rfl o39_1N0) rfl ?_
    replace h := bsome h; obtain ⟨v43, x43, h⟩ := h
    refine k_cq rfl rfl rfl Tryd.call15 rfl rfl rfl (q_rd (k_ring_Ring_Len (p0 := o39_0) o39_0G0 o39_0A0 x43) (pCons Sel.hc (pApp Sel.ha pNil)) (fun _ _ => trivial)) rfl (pSub (pCons (Sel.sc (Sel.sa Sel.hc)) pNil)) ?_
    refine k_val (v := .bool (v43 != (o39_1.L.length : Int))) rfl rfl rfl (pSub (pCons (Sel.sc (Sel.sa Sel.hc)) pNil)) (stepV_ok tt_ok rfl) rfl ?_
    simp only [Option.some.injEq, Prod.mk.injEq] at h
    obtain rfl := h
    have h := hg50; clear hg50
    refine k_val (v := .bool (v43 != (o39_1.L.length : Int))) rfl rfl rfl (pSub (pCons (Sel.sc (Sel.sa Sel.hc)) pNil)) (stepV_ok tt_ok rfl) rfl ?_
    refine k_end (by kernel_rfl) ?_
    refine wx_then ?_
    refine wc_cond rfl (fun hc => ?_) (fun hc => ?_)
    · replace h := ct hc h
      refine wc_seq (wc_region ?_)
      refine wl_pure tt_ok rfl rfl ?_
      refine wl_nil (wx_then (wc_ret (wx_block_ret (wx_then_ret ?_))))
      obtain rfl := Option.some.inj h
      have h := hl35; clear hl35; try dsimp only [orE_l, orE_r] at h
      refine wx_then_ret (wx_block_ret (wx_then_ret ?_))
      simp only [Option.some.injEq] at h
      obtain rfl := h
      exact wx_pf tt_ok (.inl rfl) Tryd.results4 (Res.tmp rfl Res.nil) rfl
    replace h := cf hc h
    refine wc_skip (wx_block (wx_then (wc_region ?_)))
    refine wl_pure tt_ok rfl rfl ?_
    refine wl_pure (v := .int .i64 (IntKind.wrap .i64 (j35_7 + (1 : Int)))) tt_ok rfl rfl ?_
    refine wl_pure tt_ok rfl rfl ?_
    refine wl_nil ?_
    exact wx_round m35 (Nat.lt_succ_self m35) ⟨(IntKind.wrap .i64 (j35_7 + (1 : Int))), o39_0.size, o39_0.places, o39_1.Size, o39_1.L, o39_0g0, o39_0P0, o39_1a0, o39_1n0, o39_1c0, o39_1B0, o39_1g0, o39_1P0, h, o39_0G0, o39_0A0, o39_1N0, o39_1V0, o39_1G0, o39_1A0, rfl, rfl⟩ (agree_cons rfl (agree_cons rfl (agree_cons rfl (agree_cons rfl (agree_cons rfl agree_nil))))) (pSub (pCons Sel.hc (pCons (Sel.sa Sel.hc) (pApp Sel.ha (pApp Sel.ha (pApp Sel.ha pNil))))))
  replace h := cf hc h
  refine wc_exit (wx_then_exit ?_)
  obtain rfl := Option.some.inj h
  have h := hl35; clear hl35; try dsimp only [orE_l, orE_r] at h
  refine wx_then_exit (wx_block_exit (wx_then (wc_seq (wc_region ?_))))
  replace h := bsome h; obtain ⟨v51, x51, h⟩ := h
  refine wl_cq Tryd.call7 rfl rfl rfl (q_pf (k_hindcastlaw25_awake x51) (fun w hI => ⟨(Rds.call G0S pNil rsub_nil) w hI, (Rds.call G1S pNil rsub_nil) w hI⟩)) rfl ?_
  refine wl_pure tt_ok rfl rfl ?_
  refine wl_nil (wx_then (wc_ret ?_))
  simp only [Option.some.injEq] at h
  obtain rfl := h
  exact wx_pf tt_ok (.inl rfl) Tryd.results4 (Res.tmp rfl Res.nil) rfl

end Go.Proofs.YtbbkblolaficdaaDoor
