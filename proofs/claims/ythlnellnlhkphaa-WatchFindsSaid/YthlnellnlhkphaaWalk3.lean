/-
  Each function computes what its model says. Printed by a program of this claim's own.
-/
import Derived.Test.YthlnellnlhkphaaTab
import Derived.Test.YthlnellnlhkphaaMod
import Derived.Test.YthlnellnlhkphaaWalk2
import Derived.Test.YthlnellnlhkphaaIns
namespace Go.Proofs.Ythlnellnlhkphaa
open Go.Proofs.Ythlnellnlhkphaa.Eng
set_option linter.unusedVariables false
set_option linter.unusedSimpArgs false
set_option maxHeartbeats 4000000
set_option maxRecDepth 20000

theorem k_watch_Watch_Own {F : Nat} {p0 : T_watch_Watch} {p0b p0t : Nat} {p0a0 : Option Addr} {p0n0 : Nat} {p0c0 : Nat} {p0B0 : List Blk} {p1 : Int} {p2 : Int} {r0 : T_watch_Watch} {r1 : Int} (p0N0 : p0n0 = p0.l.length) (p0V0 : Own 41 5 p0a0 p0n0 p0c0 (flat c_T_watch_entry p0.l) p0B0) (h : m_watch_Watch_Own F p0 p1 p2 = some (r0, r1)) :
    SpD Try.prog 6 [.pointer (some ⟨p0b, 0, none⟩), .int .u64 p1, .int .u64 p2] (⟨p0b, [.int .u64 p0.rows, .slice p0a0 p0n0 p0c0, .bool p0.clashed], p0t, (0, 0)⟩ :: (p0B0 ++ [])) (fun w => True) (fun v D => ∃ (r0a0 : Option Addr) (r0n0 : Nat) (r0c0 : Nat) (r0B0 : List Blk), r0n0 = r0.l.length ∧ Own 41 5 r0a0 r0n0 r0c0 (flat c_T_watch_entry r0.l) r0B0 ∧ v = .int .i64 r1 ∧ D = fun F => (⟨p0b, [.int .u64 r0.rows, .slice r0a0 r0n0 r0c0, .bool r0.clashed], p0t, (0, 0)⟩ :: (r0B0 ++ F))) := by
  unfold m_watch_Watch_Own at h
  refine sp_of_wc Try.func6 rfl Try.ntmps6 rfl rfl (fun w0 hR => ?_)
  refine wc_seq (wc_region ?_)
  refine wl_pure tt_ok rfl rfl ?_
  refine wl_nil (wx_then (wc_seq (wc_region ?_)))
  iterate 3 refine wl_pure tt_ok rfl rfl ?_
  replace h := bsome h; obtain ⟨⟨o10_0, v10⟩, x10, h⟩ := h; try dsimp only at h
  refine wl_cs Try.call10 rfl rfl rfl (s_sp (k_watch_Watch_told_f3_watch_ownSide (p0 := p0) p0N0 p0V0 x10) (pCons Sel.hc (pApp Sel.ha pNil)) (fun _ _ => trivial)) rfl ?_
  rintro _ _ ⟨_, ⟨o10_0a0, o10_0n0, o10_0c0, o10_0B0, o10_0N0, o10_0V0, rfl, rfl⟩, rfl⟩
  refine wl_pure tt_ok rfl rfl ?_
  refine wl_nil (wx_then (wc_ret ?_))
  simp only [Option.some.injEq, Prod.mk.injEq] at h
  obtain ⟨rfl, rfl⟩ := h
  exact wx_spD tt_ok (.inl rfl) Try.results6 (Res.tmp rfl Res.nil) ⟨o10_0a0, o10_0n0, o10_0c0, o10_0B0, o10_0N0, o10_0V0, rfl, rfl⟩ (fun F => by simp) (pSub (pCons Sel.hc (pApp Sel.ha pNil)))

end Go.Proofs.Ythlnellnlhkphaa
