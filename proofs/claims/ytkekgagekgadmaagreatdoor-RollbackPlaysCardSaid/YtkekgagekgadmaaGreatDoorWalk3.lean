/-
  Each function computes what its model says. Printed by a program of this claim's own.
-/
import Derived.Test.YtkekgagekgadmaaGreatDoorTab
import Derived.Test.YtkekgagekgadmaaGreatDoorMod
import Derived.Test.YtkekgagekgadmaaGreatDoorWalk2
namespace Go.Proofs.YtkekgagekgadmaaGreatDoor
open Go.Proofs.YtkekgagekgadmaaGreatDoor.Eng
set_option linter.unusedVariables false
set_option linter.unusedSimpArgs false
set_option maxHeartbeats 4000000
set_option maxRecDepth 20000

theorem k_hindcastref08_Player {F : Nat} {p0 : T_api_Player} {r0 : Bool} (h : m_hindcastref08_Player F p0 = some r0) :
    Pf Tryz.prog 59 [agP p0] (fun w => True) (.bool r0) := by
 unfold m_hindcastref08_Player at h
 refine pf_of_wc Tryz.func59 rfl Tryz.ntmps59 rfl rfl (fun w0 hR => ?_)
 refine wSR (wl_box rfl rfl rfl (fun b1 => (wP rfl rfl (wNT (wSR (wP (v := .pointer (some ⟨b1, 0, none⟩)) rfl rfl (wl_val (v := .int .i32 p0.X) (val_load tt_ok rfl mH rfl) rfl ?_)))))))
 obtain ⟨v5, x5, h⟩ := bsome h
 refine wl_cq Tryz.call82 rfl rfl rfl (q_pf (k_hindcastref08_in x5) (fun _ _ => trivial)) rfl ?_
 refine wP rfl rfl ?_
 obtain ⟨v10, h, hg10⟩ := bsome h
 refine wl_split (t := 6) rfl (fun hc => ?_) (fun hc => ?_)
 ·replace h := ct hc h
  refine wl_run rfl (wP (v := .pointer (some ⟨b1, 1, none⟩)) rfl rfl (wl_run rfl (wl_val (v := .int .i32 p0.Y) (val_load tt_ok rfl mH rfl) rfl ?_)))
  obtain ⟨v9, x9, h⟩ := bsome h
  refine wl_run rfl (wl_cq Tryz.call82 rfl rfl rfl (q_pf (k_hindcastref08_in x9) (fun _ _ => trivial)) rfl ?_)
  obtain rfl := sI h
  have h := hg10; clear hg10
  refine wP (v := .bool v9) rfl rfl (wP rfl rfl ?_)
  obtain ⟨v15, h, hg15⟩ := bsome h
  refine wl_split (t := 11) rfl (fun hc => ?_) (fun hc => ?_)
  ·replace h := ct hc h
   refine wl_run rfl (wP (v := .pointer (some ⟨b1, 2, none⟩)) rfl rfl (wl_run rfl (wl_val (v := .int .i32 p0.VX) (val_load tt_ok rfl mH rfl) rfl ?_)))
   obtain ⟨v14, x14, h⟩ := bsome h
   refine wl_run rfl (wl_cq Tryz.call82 rfl rfl rfl (q_pf (k_hindcastref08_in x14) (fun _ _ => trivial)) rfl ?_)
   obtain rfl := sI h
   have h := hg15; clear hg15
   refine wP (v := .bool v14) rfl rfl (wP rfl rfl ?_)
   obtain ⟨v20, h, hg20⟩ := bsome h
   refine wl_split (t := 16) rfl (fun hc => ?_) (fun hc => ?_)
   ·replace h := ct hc h
    refine wl_run rfl (wP (v := .pointer (some ⟨b1, 3, none⟩)) rfl rfl (wl_run rfl (wl_val (v := .int .i32 p0.VY) (val_load tt_ok rfl mH rfl) rfl ?_)))
    obtain ⟨v19, x19, h⟩ := bsome h
    refine wl_run rfl (wl_cq Tryz.call82 rfl rfl rfl (q_pf (k_hindcastref08_in x19) (fun _ _ => trivial)) rfl ?_)
    obtain rfl := sI h
    have h := hg20; clear hg20
    refine wP (v := .bool v19) rfl rfl (wP rfl rfl ?_)
    obtain ⟨v25, h, hg25⟩ := bsome h
    refine wl_split (t := 21) rfl (fun hc => ?_) (fun hc => ?_)
    ·replace h := ct hc h
     refine wl_run rfl (wP (v := .pointer (some ⟨b1, 4, none⟩)) rfl rfl (wl_run rfl (wl_val (v := .int .u8 p0.Health) (val_load tt_ok rfl mH rfl) rfl (wl_run rfl (wP (v := .bool (decide ((1 : Int) ≤ p0.Health))) rfl rfl ?_)))))
     obtain rfl := sI h
     have h := hg25; clear hg25
     refine wP (v := .bool (decide ((1 : Int) ≤ p0.Health))) rfl rfl (wP rfl rfl ?_)
     obtain ⟨v30, h, hg30⟩ := bsome h
     refine wl_split (t := 26) rfl (fun hc => ?_) (fun hc => ?_)
     ·replace h := ct hc h
      refine wl_run rfl (wP (v := .pointer (some ⟨b1, 4, none⟩)) rfl rfl (wl_run rfl (wl_val (v := .int .u8 p0.Health) (val_load tt_ok rfl mH rfl) rfl (wl_run rfl (wP (v := .bool (decide (p0.Health ≤ (100 : Int)))) rfl rfl ?_)))))
      obtain rfl := sI h
      have h := hg30; clear hg30
      refine wP (v := .bool (decide (p0.Health ≤ (100 : Int)))) rfl rfl (wP rfl rfl ?_)
      obtain ⟨v35, h, hg35⟩ := bsome h
      refine wl_split (t := 31) rfl (fun hc => ?_) (fun hc => ?_)
      ·replace h := ct hc h
       refine wl_run rfl (wP (v := .pointer (some ⟨b1, 5, none⟩)) rfl rfl (wl_run rfl (wl_val (v := .int .u8 p0.Cool) (val_load tt_ok rfl mH rfl) rfl (wl_run rfl (wP (v := .bool (decide (p0.Cool ≤ (30 : Int)))) rfl rfl ?_)))))
       obtain rfl := sI h
       have h := hg35; clear hg35
       refine wP (v := .bool (decide (p0.Cool ≤ (30 : Int)))) rfl rfl (wP rfl rfl ?_)
       obtain ⟨v40, h, hg40⟩ := bsome h
       refine wl_split (t := 36) rfl (fun hc => ?_) (fun hc => ?_)
       ·replace h := ct hc h
        refine wl_run rfl (wP (v := .pointer (some ⟨b1, 6, none⟩)) rfl rfl (wl_run rfl (wl_val (v := .int .u8 p0.Face) (val_load tt_ok rfl mH rfl) rfl (wl_run rfl (wP (v := .bool (decide (p0.Face ≤ (3 : Int)))) rfl rfl ?_)))))
        obtain rfl := sI h
        have h := hg40; clear hg40
        refine wP (v := .bool (decide (p0.Face ≤ (3 : Int)))) rfl rfl (wP rfl rfl (wNT (wc_ret ?_)))
        obtain rfl := sI h
        exact wx_pf tt_ok (.inl rfl) Tryz.results59 (Res.tmp rfl Res.nil) rfl
       replace h := cf hc h
       iterate 3 refine wl_skip rfl rfl ?_
       obtain rfl := sI h
       have h := hg40; clear hg40
       refine wP (v := .bool false) rfl rfl (wP rfl rfl (wNT (wc_ret ?_)))
       obtain rfl := sI h
       exact wx_pf tt_ok (.inl rfl) Tryz.results59 (Res.tmp rfl Res.nil) rfl
      replace h := cf hc h
      iterate 3 refine wl_skip rfl rfl ?_
      obtain rfl := sI h
      have h := hg35; clear hg35
      refine wP (v := .bool false) rfl rfl (wP rfl rfl ?_)
      obtain ⟨v40, h, hg40⟩ := bsome h
      replace h := cf rfl h
      iterate 3 refine wl_skip rfl rfl ?_
      obtain rfl := sI h
      have h := hg40; clear hg40
      refine wP (v := .bool false) rfl rfl (wP rfl rfl (wNT (wc_ret ?_)))
      obtain rfl := sI h
      exact wx_pf tt_ok (.inl rfl) Tryz.results59 (Res.tmp rfl Res.nil) rfl
     replace h := cf hc h
     iterate 3 refine wl_skip rfl rfl ?_
     obtain rfl := sI h
     have h := hg30; clear hg30
     refine wP (v := .bool false) rfl rfl (wP rfl rfl ?_)
     obtain ⟨v35, h, hg35⟩ := bsome h
     replace h := cf rfl h
     iterate 3 refine wl_skip rfl rfl ?_
     obtain rfl := sI h
     have h := hg35; clear hg35
     refine wP (v := .bool false) rfl rfl (wP rfl rfl ?_)
     obtain ⟨v40, h, hg40⟩ := bsome h
     replace h := cf rfl h
     iterate 3 refine wl_skip rfl rfl ?_
     obtain rfl := sI h
     have h := hg40; clear hg40
     refine wP (v := .bool false) rfl rfl (wP rfl rfl (wNT (wc_ret ?_)))
     obtain rfl := sI h
     exact wx_pf tt_ok (.inl rfl) Tryz.results59 (Res.tmp rfl Res.nil) rfl
    replace h := cf hc h
    iterate 3 refine wl_skip rfl rfl ?_
    obtain rfl := sI h
    have h := hg25; clear hg25
    refine wP (v := .bool false) rfl rfl (wP rfl rfl ?_)
    obtain ⟨v30, h, hg30⟩ := bsome h
    replace h := cf rfl h
    iterate 3 refine wl_skip rfl rfl ?_
    obtain rfl := sI h
    have h := hg30; clear hg30
    refine wP (v := .bool false) rfl rfl (wP rfl rfl ?_)
    obtain ⟨v35, h, hg35⟩ := bsome h
    replace h := cf rfl h
    iterate 3 refine wl_skip rfl rfl ?_
    obtain rfl := sI h
    have h := hg35; clear hg35
    refine wP (v := .bool false) rfl rfl (wP rfl rfl ?_)
    obtain ⟨v40, h, hg40⟩ := bsome h
    replace h := cf rfl h
    iterate 3 refine wl_skip rfl rfl ?_
    obtain rfl := sI h
    have h := hg40; clear hg40
    refine wP (v := .bool false) rfl rfl (wP rfl rfl (wNT (wc_ret ?_)))
    obtain rfl := sI h
    exact wx_pf tt_ok (.inl rfl) Tryz.results59 (Res.tmp rfl Res.nil) rfl
   replace h := cf hc h
   iterate 3 refine wl_skip rfl rfl ?_
   obtain rfl := sI h
   have h := hg20; clear hg20
   refine wP (v := .bool false) rfl rfl (wP rfl rfl ?_)
   obtain ⟨v25, h, hg25⟩ := bsome h
   replace h := cf rfl h
   iterate 3 refine wl_skip rfl rfl ?_
   obtain rfl := sI h
   have h := hg25; clear hg25
   refine wP (v := .bool false) rfl rfl (wP rfl rfl ?_)
   obtain ⟨v30, h, hg30⟩ := bsome h
   replace h := cf rfl h
   iterate 3 refine wl_skip rfl rfl ?_
   obtain rfl := sI h
   have h := hg30; clear hg30
   refine wP (v := .bool false) rfl rfl (wP rfl rfl ?_)
   obtain ⟨v35, h, hg35⟩ := bsome h
   replace h := cf rfl h
   iterate 3 refine wl_skip rfl rfl ?_
   obtain rfl := sI h
   have h := hg35; clear hg35
   refine wP (v := .bool false) rfl rfl (wP rfl rfl ?_)
   obtain ⟨v40, h, hg40⟩ := bsome h
   replace h := cf rfl h
   iterate 3 refine wl_skip rfl rfl ?_
   obtain rfl := sI h
   have h := hg40; clear hg40
   refine wP (v := .bool false) rfl rfl (wP rfl rfl (wNT (wc_ret ?_)))
   obtain rfl := sI h
   exact wx_pf tt_ok (.inl rfl) Tryz.results59 (Res.tmp rfl Res.nil) rfl
  replace h := cf hc h
  iterate 3 refine wl_skip rfl rfl ?_
  obtain rfl := sI h
  have h := hg15; clear hg15
  refine wP (v := .bool false) rfl rfl (wP rfl rfl ?_)
  obtain ⟨v20, h, hg20⟩ := bsome h
  replace h := cf rfl h
  iterate 3 refine wl_skip rfl rfl ?_
  obtain rfl := sI h
  have h := hg20; clear hg20
  refine wP (v := .bool false) rfl rfl (wP rfl rfl ?_)
  obtain ⟨v25, h, hg25⟩ := bsome h
  replace h := cf rfl h
  iterate 3 refine wl_skip rfl rfl ?_
  obtain rfl := sI h
  have h := hg25; clear hg25
  refine wP (v := .bool false) rfl rfl (wP rfl rfl ?_)
  obtain ⟨v30, h, hg30⟩ := bsome h
  replace h := cf rfl h
  iterate 3 refine wl_skip rfl rfl ?_
  obtain rfl := sI h
  have h := hg30; clear hg30
  refine wP (v := .bool false) rfl rfl (wP rfl rfl ?_)
  obtain ⟨v35, h, hg35⟩ := bsome h
  replace h := cf rfl h
  iterate 3 refine wl_skip rfl rfl ?_
  obtain rfl := sI h
  have h := hg35; clear hg35
  refine wP (v := .bool false) rfl rfl (wP rfl rfl ?_)
  obtain ⟨v40, h, hg40⟩ := bsome h
  replace h := cf rfl h
  iterate 3 refine wl_skip rfl rfl ?_
  obtain rfl := sI h
  have h := hg40; clear hg40
  refine wP (v := .bool false) rfl rfl (wP rfl rfl (wNT (wc_ret ?_)))
  obtain rfl := sI h
  exact wx_pf tt_ok (.inl rfl) Tryz.results59 (Res.tmp rfl Res.nil) rfl
 replace h := cf hc h
 iterate 3 refine wl_skip rfl rfl ?_
 obtain rfl := sI h
 have h := hg10; clear hg10
 refine wP (v := .bool false) rfl rfl (wP rfl rfl ?_)
 obtain ⟨v15, h, hg15⟩ := bsome h
 replace h := cf rfl h
 iterate 3 refine wl_skip rfl rfl ?_
 obtain rfl := sI h
 have h := hg15; clear hg15
 refine wP (v := .bool false) rfl rfl (wP rfl rfl ?_)
 obtain ⟨v20, h, hg20⟩ := bsome h
 replace h := cf rfl h
 iterate 3 refine wl_skip rfl rfl ?_
 obtain rfl := sI h
 have h := hg20; clear hg20
 refine wP (v := .bool false) rfl rfl (wP rfl rfl ?_)
 obtain ⟨v25, h, hg25⟩ := bsome h
 replace h := cf rfl h
 iterate 3 refine wl_skip rfl rfl ?_
 obtain rfl := sI h
 have h := hg25; clear hg25
 refine wP (v := .bool false) rfl rfl (wP rfl rfl ?_)
 obtain ⟨v30, h, hg30⟩ := bsome h
 replace h := cf rfl h
 iterate 3 refine wl_skip rfl rfl ?_
 obtain rfl := sI h
 have h := hg30; clear hg30
 refine wP (v := .bool false) rfl rfl (wP rfl rfl ?_)
 obtain ⟨v35, h, hg35⟩ := bsome h
 replace h := cf rfl h
 iterate 3 refine wl_skip rfl rfl ?_
 obtain rfl := sI h
 have h := hg35; clear hg35
 refine wP (v := .bool false) rfl rfl (wP rfl rfl ?_)
 obtain ⟨v40, h, hg40⟩ := bsome h
 replace h := cf rfl h
 iterate 3 refine wl_skip rfl rfl ?_
 obtain rfl := sI h
 have h := hg40; clear hg40
 refine wP (v := .bool false) rfl rfl (wP rfl rfl (wNT (wc_ret ?_)))
 obtain rfl := sI h
 exact wx_pf tt_ok (.inl rfl) Tryz.results59 (Res.tmp rfl Res.nil) rfl

theorem k_hindcastref08_Shot {F : Nat} {p0 : T_api_Shot} {r0 : Bool} (h : m_hindcastref08_Shot F p0 = some r0) :
    Pf Tryz.prog 60 [.agg #[.int .i32 p0.X, .int .i32 p0.Y, .int .i32 p0.VX, .int .i32 p0.VY, .int .u8 p0.Owner, .int .u8 p0.Life]] (fun w => True) (.bool r0) := by
 unfold m_hindcastref08_Shot at h
 refine pf_of_wc Tryz.func60 rfl Tryz.ntmps60 rfl rfl (fun w0 hR => ?_)
 refine wSR (wl_box rfl rfl rfl (fun b1 => (wP rfl rfl (wNT (wSR (wP (v := .pointer (some ⟨b1, 0, none⟩)) rfl rfl (wl_val (v := .int .i32 p0.X) (val_load tt_ok rfl mH rfl) rfl ?_)))))))
 obtain ⟨v5, x5, h⟩ := bsome h
 refine wl_cq Tryz.call82 rfl rfl rfl (q_pf (k_hindcastref08_in x5) (fun _ _ => trivial)) rfl ?_
 refine wP rfl rfl ?_
 obtain ⟨v10, h, hg10⟩ := bsome h
 refine wl_split (t := 6) rfl (fun hc => ?_) (fun hc => ?_)
 ·replace h := ct hc h
  refine wl_run rfl (wP (v := .pointer (some ⟨b1, 1, none⟩)) rfl rfl (wl_run rfl (wl_val (v := .int .i32 p0.Y) (val_load tt_ok rfl mH rfl) rfl ?_)))
  obtain ⟨v9, x9, h⟩ := bsome h
  refine wl_run rfl (wl_cq Tryz.call82 rfl rfl rfl (q_pf (k_hindcastref08_in x9) (fun _ _ => trivial)) rfl ?_)
  obtain rfl := sI h
  have h := hg10; clear hg10
  refine wP (v := .bool v9) rfl rfl (wP rfl rfl ?_)
  obtain ⟨v15, h, hg15⟩ := bsome h
  refine wl_split (t := 11) rfl (fun hc => ?_) (fun hc => ?_)
  ·replace h := ct hc h
   refine wl_run rfl (wP (v := .pointer (some ⟨b1, 2, none⟩)) rfl rfl (wl_run rfl (wl_val (v := .int .i32 p0.VX) (val_load tt_ok rfl mH rfl) rfl ?_)))
   obtain ⟨v14, x14, h⟩ := bsome h
   refine wl_run rfl (wl_cq Tryz.call82 rfl rfl rfl (q_pf (k_hindcastref08_in x14) (fun _ _ => trivial)) rfl ?_)
   obtain rfl := sI h
   have h := hg15; clear hg15
   refine wP (v := .bool v14) rfl rfl (wP rfl rfl ?_)
   obtain ⟨v20, h, hg20⟩ := bsome h
   refine wl_split (t := 16) rfl (fun hc => ?_) (fun hc => ?_)
   ·replace h := ct hc h
    refine wl_run rfl (wP (v := .pointer (some ⟨b1, 3, none⟩)) rfl rfl (wl_run rfl (wl_val (v := .int .i32 p0.VY) (val_load tt_ok rfl mH rfl) rfl ?_)))
    obtain ⟨v19, x19, h⟩ := bsome h
    refine wl_run rfl (wl_cq Tryz.call82 rfl rfl rfl (q_pf (k_hindcastref08_in x19) (fun _ _ => trivial)) rfl ?_)
    obtain rfl := sI h
    have h := hg20; clear hg20
    refine wP (v := .bool v19) rfl rfl (wP rfl rfl ?_)
    obtain ⟨v25, h, hg25⟩ := bsome h
    refine wl_split (t := 21) rfl (fun hc => ?_) (fun hc => ?_)
    ·replace h := ct hc h
     refine wl_run rfl (wP (v := .pointer (some ⟨b1, 4, none⟩)) rfl rfl (wl_run rfl (wl_val (v := .int .u8 p0.Owner) (val_load tt_ok rfl mH rfl) rfl (wl_run rfl (wP (v := .bool (decide (p0.Owner ≤ (1 : Int)))) rfl rfl ?_)))))
     obtain rfl := sI h
     have h := hg25; clear hg25
     refine wP (v := .bool (decide (p0.Owner ≤ (1 : Int)))) rfl rfl (wP rfl rfl ?_)
     obtain ⟨v30, h, hg30⟩ := bsome h
     refine wl_split (t := 26) rfl (fun hc => ?_) (fun hc => ?_)
     ·replace h := ct hc h
      refine wl_run rfl (wP (v := .pointer (some ⟨b1, 5, none⟩)) rfl rfl (wl_run rfl (wl_val (v := .int .u8 p0.Life) (val_load tt_ok rfl mH rfl) rfl (wl_run rfl (wP (v := .bool (decide ((1 : Int) ≤ p0.Life))) rfl rfl ?_)))))
      obtain rfl := sI h
      have h := hg30; clear hg30
      refine wP (v := .bool (decide ((1 : Int) ≤ p0.Life))) rfl rfl (wP rfl rfl ?_)
      obtain ⟨v35, h, hg35⟩ := bsome h
      refine wl_split (t := 31) rfl (fun hc => ?_) (fun hc => ?_)
      ·replace h := ct hc h
       refine wl_run rfl (wP (v := .pointer (some ⟨b1, 5, none⟩)) rfl rfl (wl_run rfl (wl_val (v := .int .u8 p0.Life) (val_load tt_ok rfl mH rfl) rfl (wl_run rfl (wP (v := .bool (decide (p0.Life ≤ (40 : Int)))) rfl rfl ?_)))))
       obtain rfl := sI h
       have h := hg35; clear hg35
       refine wP (v := .bool (decide (p0.Life ≤ (40 : Int)))) rfl rfl (wP rfl rfl (wNT (wc_ret ?_)))
       obtain rfl := sI h
       exact wx_pf tt_ok (.inl rfl) Tryz.results60 (Res.tmp rfl Res.nil) rfl
      replace h := cf hc h
      iterate 3 refine wl_skip rfl rfl ?_
      obtain rfl := sI h
      have h := hg35; clear hg35
      refine wP (v := .bool false) rfl rfl (wP rfl rfl (wNT (wc_ret ?_)))
      obtain rfl := sI h
      exact wx_pf tt_ok (.inl rfl) Tryz.results60 (Res.tmp rfl Res.nil) rfl
     replace h := cf hc h
     iterate 3 refine wl_skip rfl rfl ?_
     obtain rfl := sI h
     have h := hg30; clear hg30
     refine wP (v := .bool false) rfl rfl (wP rfl rfl ?_)
     obtain ⟨v35, h, hg35⟩ := bsome h
     replace h := cf rfl h
     iterate 3 refine wl_skip rfl rfl ?_
     obtain rfl := sI h
     have h := hg35; clear hg35
     refine wP (v := .bool false) rfl rfl (wP rfl rfl (wNT (wc_ret ?_)))
     obtain rfl := sI h
     exact wx_pf tt_ok (.inl rfl) Tryz.results60 (Res.tmp rfl Res.nil) rfl
    replace h := cf hc h
    iterate 3 refine wl_skip rfl rfl ?_
    obtain rfl := sI h
    have h := hg25; clear hg25
    refine wP (v := .bool false) rfl rfl (wP rfl rfl ?_)
    obtain ⟨v30, h, hg30⟩ := bsome h
    replace h := cf rfl h
    iterate 3 refine wl_skip rfl rfl ?_
    obtain rfl := sI h
    have h := hg30; clear hg30
    refine wP (v := .bool false) rfl rfl (wP rfl rfl ?_)
    obtain ⟨v35, h, hg35⟩ := bsome h
    replace h := cf rfl h
    iterate 3 refine wl_skip rfl rfl ?_
    obtain rfl := sI h
    have h := hg35; clear hg35
    refine wP (v := .bool false) rfl rfl (wP rfl rfl (wNT (wc_ret ?_)))
    obtain rfl := sI h
    exact wx_pf tt_ok (.inl rfl) Tryz.results60 (Res.tmp rfl Res.nil) rfl
   replace h := cf hc h
   iterate 3 refine wl_skip rfl rfl ?_
   obtain rfl := sI h
   have h := hg20; clear hg20
   refine wP (v := .bool false) rfl rfl (wP rfl rfl ?_)
   obtain ⟨v25, h, hg25⟩ := bsome h
   replace h := cf rfl h
   iterate 3 refine wl_skip rfl rfl ?_
   obtain rfl := sI h
   have h := hg25; clear hg25
   refine wP (v := .bool false) rfl rfl (wP rfl rfl ?_)
   obtain ⟨v30, h, hg30⟩ := bsome h
   replace h := cf rfl h
   iterate 3 refine wl_skip rfl rfl ?_
   obtain rfl := sI h
   have h := hg30; clear hg30
   refine wP (v := .bool false) rfl rfl (wP rfl rfl ?_)
   obtain ⟨v35, h, hg35⟩ := bsome h
   replace h := cf rfl h
   iterate 3 refine wl_skip rfl rfl ?_
   obtain rfl := sI h
   have h := hg35; clear hg35
   refine wP (v := .bool false) rfl rfl (wP rfl rfl (wNT (wc_ret ?_)))
   obtain rfl := sI h
   exact wx_pf tt_ok (.inl rfl) Tryz.results60 (Res.tmp rfl Res.nil) rfl
  replace h := cf hc h
  iterate 3 refine wl_skip rfl rfl ?_
  obtain rfl := sI h
  have h := hg15; clear hg15
  refine wP (v := .bool false) rfl rfl (wP rfl rfl ?_)
  obtain ⟨v20, h, hg20⟩ := bsome h
  replace h := cf rfl h
  iterate 3 refine wl_skip rfl rfl ?_
  obtain rfl := sI h
  have h := hg20; clear hg20
  refine wP (v := .bool false) rfl rfl (wP rfl rfl ?_)
  obtain ⟨v25, h, hg25⟩ := bsome h
  replace h := cf rfl h
  iterate 3 refine wl_skip rfl rfl ?_
  obtain rfl := sI h
  have h := hg25; clear hg25
  refine wP (v := .bool false) rfl rfl (wP rfl rfl ?_)
  obtain ⟨v30, h, hg30⟩ := bsome h
  replace h := cf rfl h
  iterate 3 refine wl_skip rfl rfl ?_
  obtain rfl := sI h
  have h := hg30; clear hg30
  refine wP (v := .bool false) rfl rfl (wP rfl rfl ?_)
  obtain ⟨v35, h, hg35⟩ := bsome h
  replace h := cf rfl h
  iterate 3 refine wl_skip rfl rfl ?_
  obtain rfl := sI h
  have h := hg35; clear hg35
  refine wP (v := .bool false) rfl rfl (wP rfl rfl (wNT (wc_ret ?_)))
  obtain rfl := sI h
  exact wx_pf tt_ok (.inl rfl) Tryz.results60 (Res.tmp rfl Res.nil) rfl
 replace h := cf hc h
 iterate 3 refine wl_skip rfl rfl ?_
 obtain rfl := sI h
 have h := hg10; clear hg10
 refine wP (v := .bool false) rfl rfl (wP rfl rfl ?_)
 obtain ⟨v15, h, hg15⟩ := bsome h
 replace h := cf rfl h
 iterate 3 refine wl_skip rfl rfl ?_
 obtain rfl := sI h
 have h := hg15; clear hg15
 refine wP (v := .bool false) rfl rfl (wP rfl rfl ?_)
 obtain ⟨v20, h, hg20⟩ := bsome h
 replace h := cf rfl h
 iterate 3 refine wl_skip rfl rfl ?_
 obtain rfl := sI h
 have h := hg20; clear hg20
 refine wP (v := .bool false) rfl rfl (wP rfl rfl ?_)
 obtain ⟨v25, h, hg25⟩ := bsome h
 replace h := cf rfl h
 iterate 3 refine wl_skip rfl rfl ?_
 obtain rfl := sI h
 have h := hg25; clear hg25
 refine wP (v := .bool false) rfl rfl (wP rfl rfl ?_)
 obtain ⟨v30, h, hg30⟩ := bsome h
 replace h := cf rfl h
 iterate 3 refine wl_skip rfl rfl ?_
 obtain rfl := sI h
 have h := hg30; clear hg30
 refine wP (v := .bool false) rfl rfl (wP rfl rfl ?_)
 obtain ⟨v35, h, hg35⟩ := bsome h
 replace h := cf rfl h
 iterate 3 refine wl_skip rfl rfl ?_
 obtain rfl := sI h
 have h := hg35; clear hg35
 refine wP (v := .bool false) rfl rfl (wP rfl rfl (wNT (wc_ret ?_)))
 obtain rfl := sI h
 exact wx_pf tt_ok (.inl rfl) Tryz.results60 (Res.tmp rfl Res.nil) rfl

theorem k_hindcastref08_Check {F : Nat} {p0 : T_api_State} {p0a0 : Option Addr} {p0n0 p0c0 : Nat} {r0 : Int} (p0N0 : p0n0 = p0.Shots.length) (p0H0 : p0n0 ≤ p0c0) (h : m_hindcastref08_Check F p0 = some r0) :
    Pf Tryz.prog 24 [agS p0 p0a0 p0n0 p0c0] (fun w => Rds w [] [] p0a0 (flat c_T_api_Shot p0.Shots)) (.int .i64 r0) := by
 unfold m_hindcastref08_Check at h
 refine pf_of_wc Tryz.func24 rfl Tryz.ntmps24 rfl rfl (fun w0 hR => ?_)
 have p0S0 := hR
 refine wSR (wl_box rfl rfl rfl (fun b1 => (wP rfl rfl (wNT (wc_seq (wSR (wP (v := .pointer (some ⟨b1, 16, none⟩)) rfl rfl (wl_val (v := .slice p0a0 p0n0 p0c0) (val_load tt_ok rfl mH rfl) rfl (wl_val (v := .int .i64 (p0.Shots.length : Int)) (val_len tt_ok rfl rfl p0N0) rfl (wP (v := .bool (decide ((8 : Int) < (p0.Shots.length : Int)))) rfl rfl (wP rfl rfl ?_)))))))))))
 obtain ⟨v14, h, hg14⟩ := bsome h
 refine wl_split (t := 8) rfl (fun hc => ?_) (fun hc => ?_)
 ·replace h := ct hc h
  iterate 5 refine wl_skip rfl rfl ?_
  obtain rfl := sI h
  have h := hg14; clear hg14
  refine wP (v := .bool true) rfl rfl (wP rfl rfl ?_)
  obtain ⟨v21, h, hg21⟩ := bsome h
  replace h := ct rfl h
  iterate 5 refine wl_skip rfl rfl ?_
  obtain rfl := sI h
  have h := hg21; clear hg21
  refine wP (v := .bool true) rfl rfl (wNT ?_)
  replace h := ct rfl h
  refine wc_cond_true rfl ?_
  refine wSR (wP rfl rfl (wNT (wc_ret (wx_then_ret ?_))))
  obtain rfl := sI h
  exact wx_pf tt_ok (.inl rfl) Tryz.results24 (Res.tmp rfl Res.nil) rfl
 replace h := cf hc h
 refine wl_run rfl (wP (v := .pointer (some ⟨b1, 2, none⟩)) rfl rfl (wl_run rfl (wl_val (v := .pointer (some ⟨b1, 2, none⟩)) (val_ia (j := 0) tt_ok rfl rfl rfl rfl rfl rfl rfl) rfl (wl_run rfl (wl_val (v := agP p0.Players.1) (val_load tt_ok rfl mH rfl) rfl ?_)))))
 obtain ⟨v12, x12, h⟩ := bsome h
 refine wl_run rfl (wl_cq Tryz.call59 rfl rfl rfl (q_pf (k_hindcastref08_Player x12) (fun _ _ => trivial)) rfl (wl_run rfl (wP (v := .bool (!v12)) rfl rfl ?_)))
 obtain rfl := sI h
 have h := hg14; clear hg14
 refine wP (v := .bool (!v12)) rfl rfl (wP rfl rfl ?_)
 obtain ⟨v21, h, hg21⟩ := bsome h
 refine wl_split (t := 15) rfl (fun hc => ?_) (fun hc => ?_)
 ·replace h := ct hc h
  iterate 5 refine wl_skip rfl rfl ?_
  obtain rfl := sI h
  have h := hg21; clear hg21
  refine wP (v := .bool true) rfl rfl (wNT ?_)
  replace h := ct rfl h
  refine wc_cond_true rfl ?_
  refine wSR (wP rfl rfl (wNT (wc_ret (wx_then_ret ?_))))
  obtain rfl := sI h
  exact wx_pf tt_ok (.inl rfl) Tryz.results24 (Res.tmp rfl Res.nil) rfl
 replace h := cf hc h
 refine wl_run rfl (wP (v := .pointer (some ⟨b1, 2, none⟩)) rfl rfl (wl_run rfl (wl_val (v := .pointer (some ⟨b1, 9, none⟩)) (val_ia (j := 1) tt_ok rfl rfl rfl rfl rfl rfl rfl) rfl (wl_run rfl (wl_val (v := agP p0.Players.2) (val_load tt_ok rfl mH rfl) rfl ?_)))))
 obtain ⟨v19, x19, h⟩ := bsome h
 refine wl_run rfl (wl_cq Tryz.call59 rfl rfl rfl (q_pf (k_hindcastref08_Player x19) (fun _ _ => trivial)) rfl (wl_run rfl (wP (v := .bool (!v19)) rfl rfl ?_)))
 obtain rfl := sI h
 have h := hg21; clear hg21
 refine wP (v := .bool (!v19)) rfl rfl (wNT (wc_cond rfl (fun hc => ?_) (fun hc => ?_)))
 ·replace h := ct hc h
  refine wSR (wP rfl rfl (wNT (wc_ret (wx_then_ret ?_))))
  obtain rfl := sI h
  exact wx_pf tt_ok (.inl rfl) Tryz.results24 (Res.tmp rfl Res.nil) rfl
 replace h := cf hc h
 refine wc_skip (wx_then (wc_seq (wSR (wP rfl rfl (wNT (wc_block ?_))))))
 obtain ⟨o15, h, hl15⟩ := bsome h
 refine wc_loop (fun m E L => ∃ (za : Int), m_hindcastref08_Check_L14 F p0 m za = some o15 ∧ E = [(1, .pointer (some ⟨b1, 0, none⟩)), (2, .int .i64 (0 : Int)), (3, .int .i64 za)] ∧ L = (⟨b1, (st19 p0 p0a0 p0n0 p0c0 []), 30, (0, 0)⟩ :: [])) F ⟨(0 : Int), h, rfl, rfl⟩ (agree_cons rfl (agree_cons rfl (agree_cons rfl agree_nil))) (pSub (pH pNil)) ?_
 clear h
 rintro m15 _ _ ⟨za, h, rfl, rfl⟩
 rcases m15 with _ | m15
 ·rw [m_hindcastref08_Check_L14.eq_1] at h; cases h
 rw [m_hindcastref08_Check_L14.eq_2] at h
 refine wc_seq (wSR (wP rfl rfl (wP (v := .pointer (some ⟨b1, 16, none⟩)) rfl rfl (wl_val (v := .slice p0a0 p0n0 p0c0) (val_load tt_ok rfl mH rfl) rfl (wl_val (v := .int .i64 (p0.Shots.length : Int)) (val_len tt_ok rfl rfl p0N0) rfl (wP (v := .bool (decide (za < (p0.Shots.length : Int)))) rfl rfl (wNT (wc_cond rfl (fun hc => ?_) (fun hc => ?_)))))))))
 ·replace h := ct hc h
  refine wc_skip (wx_then (wc_seq (wc_block (wSR (wP (v := .pointer (some ⟨b1, 16, none⟩)) rfl rfl (wl_val (v := .slice p0a0 p0n0 p0c0) (val_load tt_ok rfl mH rfl) rfl (wP rfl rfl ?_)))))))
  obtain ⟨v32, x32, h⟩ := bsome h
  refine wl_val (v := .pointer (some ((adOf p0a0).add (za.toNat * 6 + 0)))) (val_ix (enc := c_T_api_Shot) tt_ok rfl rfl rfl rfl p0N0 p0S0 c_T_api_Shot_len rfl x32) rfl ?_
  refine wl_val (v := .agg #[.int .i32 v32.X, .int .i32 v32.Y, .int .i32 v32.VX, .int .i32 v32.VY, .int .u8 v32.Owner, .int .u8 v32.Life]) (val_le (enc := c_T_api_Shot) (xs := p0.Shots) tt_ok rfl p0S0 rsub_nil c_T_api_Shot_len x32 rfl) rfl ?_
  obtain ⟨v34, x34, h⟩ := bsome h
  refine wl_cq Tryz.call60 rfl rfl rfl (q_pf (k_hindcastref08_Shot x34) (fun _ _ => trivial)) rfl ?_
  refine wP (v := .bool (!v34)) rfl rfl (wNT (wc_cond rfl (fun hc => ?_) (fun hc => ?_)))
  ·replace h := ct hc h
   refine wSR (wP rfl rfl (wNT (wc_ret (wx_block_ret (wx_then_ret ?_)))))
   obtain rfl := Option.some.inj h
   have h := hl15; clear hl15; try dsimp only [orE_l, orE_r] at h
   refine wx_then_ret (wx_block_ret (wx_then_ret ?_))
   obtain rfl := sI h
   exact wx_pf tt_ok (.inl rfl) Tryz.results24 (Res.tmp rfl Res.nil) rfl
  replace h := cf hc h
  refine wc_skip (wx_block (wx_then (wc_region (wP rfl rfl (wP (v := .int .i64 (IntKind.wrap .i64 (za + (1 : Int)))) rfl rfl (wP rfl rfl (wl_nil ?_)))))))
  exact wx_round m15 (Nat.lt_succ_self m15) ⟨(IntKind.wrap .i64 (za + (1 : Int))), h, rfl, rfl⟩ (agree_cons rfl (agree_cons rfl (agree_cons rfl agree_nil))) (pSub (pH pNil))
 replace h := cf hc h
 refine wc_exit (wx_then_exit ?_)
 obtain rfl := Option.some.inj h
 have h := hl15; clear hl15; try dsimp only [orE_l, orE_r] at h
 refine wx_then_exit (wx_block_exit (wx_then (wSR ?_)))
 refine wP rfl rfl (wNT (wc_ret ?_))
 obtain rfl := sI h
 exact wx_pf tt_ok (.inl rfl) Tryz.results24 (Res.tmp rfl Res.nil) rfl

theorem k_hindcastref24_New {F : Nat} {p0 : Int} {r0 : T_hindcastref24_Queue} (h : m_hindcastref24_New F p0 = some r0) :
    SpD Tryz.prog 25 [.int .u64 p0] [] (fun w => True) (fun v D => ∃ (r0b : Nat) (r0a0 : Option Addr) (r0n0 r0c0 : Nat) (r0B0 : List Blk), r0n0 = r0.L.length ∧ Own 40 1 r0a0 r0n0 r0c0 (flat (e1 .u8) r0.L) r0B0 ∧ v = .pointer (some ⟨r0b, 0, none⟩) ∧ D = fun F => (⟨r0b, [.int .u64 r0.Begin, .int .u64 r0.First, .slice r0a0 r0n0 r0c0], 108, (0, 0)⟩ :: (r0B0 ++ F))) := by
 unfold m_hindcastref24_New at h
 refine sp_of_wc Tryz.func25 rfl Tryz.ntmps25 rfl rfl (fun w0 hR => ?_)
 refine wSR (wP rfl rfl (wNT (wSR ?_)))
 iterate 2 refine wP rfl rfl ?_
 refine wP (v := .agg #[.int .u64 p0, .int .u64 p0, .slice none 0 0]) rfl rfl (wl_box rfl rfl rfl (fun b6 => (wP rfl rfl (wNT (wc_ret ?_)))))
 obtain rfl := sI h
 exact wx_spD tt_ok (.inl rfl) Tryz.results25 (Res.tmp rfl Res.nil) ⟨b6, none, 0, 0, [], rfl, Own.zero, rfl, rfl⟩ (fun F => by simp) (pSub (pH (pNo pNil)))

theorem k_hindcastref26_New {F : Nat} {p0 : T_api_State} {p0a0 : Option Addr} {p0n0 p0c0 : Nat} {p1 : Int} {p2 : Int} {r0 : (T_hindcastref26_Engine × T_hindcastref24_Queue)} (p0N0 : p0n0 = p0.Shots.length) (p0H0 : p0n0 ≤ p0c0) (h : m_hindcastref26_New F p0 p1 p2 = some (some r0)) :
    SpD Tryz.prog 7 [agS p0 p0a0 p0n0 p0c0, .int .u8 p1, .int .i64 p2] [] (fun w => Rds w (ids []) [] p0a0 (flat c_T_api_Shot p0.Shots)) (fun v D => ∃ (r0b r0b_4 : Nat) (r0a0 : Option Addr) (r0n0 r0c0 : Nat) (r0B0 : List Blk) (r0a1 : Option Addr) (r0n1 r0c1 : Nat) (r0B1 : List Blk) (r0_4a0 : Option Addr) (r0_4n0 r0_4c0 : Nat) (r0_4B0 : List Blk), r0n0 = r0.1.Sure.Shots.length ∧ Own 93 6 r0a0 r0n0 r0c0 (flat c_T_api_Shot r0.1.Sure.Shots) r0B0 ∧ r0n1 = r0.1.Own.length ∧ Own 40 1 r0a1 r0n1 r0c1 (flat (e1 .u8) r0.1.Own) r0B1 ∧ r0_4n0 = r0.2.L.length ∧ Own 40 1 r0_4a0 r0_4n0 r0_4c0 (flat (e1 .u8) r0.2.L) r0_4B0 ∧ v = .pointer (some ⟨r0b, 0, none⟩) ∧ D = fun F => (⟨r0b, (.int .u8 r0.1.Player :: .int .i64 r0.1.Window :: st19 r0.1.Sure r0a0 r0n0 r0c0 [.slice r0a1 r0n1 r0c1, .pointer (some ⟨r0b_4, 0, none⟩)]), 70, (0, 0)⟩ :: (r0B0 ++ (r0B1 ++ (⟨r0b_4, [.int .u64 r0.2.Begin, .int .u64 r0.2.First, .slice r0_4a0 r0_4n0 r0_4c0], 108, (0, 0)⟩ :: (r0_4B0 ++ F)))))) := by
 unfold m_hindcastref26_New at h
 refine sp_of_wc Tryz.func7 rfl Tryz.ntmps7 rfl rfl (fun w0 hR => ?_)
 have p0S0 := hR
 refine wSR (wl_box rfl rfl rfl (fun b3 => (wP rfl rfl (wNT (wc_seq (wSR (wl_val (v := agS p0 p0a0 p0n0 p0c0) (val_load tt_ok rfl mH rfl) rfl ?_)))))))
 obtain ⟨v8, x8, h⟩ := bsome h
 refine wl_cq Tryz.call24 rfl rfl rfl (q_pf (k_hindcastref08_Check (p0 := p0) p0N0 p0H0 x8) (Rds.call p0S0 pNil rsub_nil)) rfl ?_
 refine wP (v := .bool (v8 != (0 : Int))) rfl rfl (wP rfl rfl ?_)
 obtain ⟨v14, h, hg14⟩ := bsome h
 refine wl_split (t := 10) rfl (fun hc => ?_) (fun hc => ?_)
 ·replace h := ct hc h
  iterate 3 refine wl_skip rfl rfl ?_
  simp only [Option.some.injEq, Prod.mk.injEq] at h
  obtain rfl := h
  have h := hg14; clear hg14
  refine wP (v := .bool true) rfl rfl (wP rfl rfl ?_)
  obtain ⟨v18, h, hg18⟩ := bsome h
  replace h := ct rfl h
  iterate 2 refine wl_skip rfl rfl ?_
  simp only [Option.some.injEq, Prod.mk.injEq] at h
  obtain rfl := h
  have h := hg18; clear hg18
  refine wP (v := .bool true) rfl rfl (wP rfl rfl ?_)
  obtain ⟨v22, h, hg22⟩ := bsome h
  replace h := ct rfl h
  iterate 2 refine wl_skip rfl rfl ?_
  simp only [Option.some.injEq, Prod.mk.injEq] at h
  obtain rfl := h
  have h := hg22; clear hg22
  refine wP (v := .bool true) rfl rfl (wP rfl rfl ?_)
  obtain ⟨v26, h, hg26⟩ := bsome h
  replace h := ct rfl h
  iterate 2 refine wl_skip rfl rfl ?_
  simp only [Option.some.injEq, Prod.mk.injEq] at h
  obtain rfl := h
  have h := hg26; clear hg26
  refine wP (v := .bool true) rfl rfl (wNT ?_)
  replace h := ct rfl h
  refine wc_cond_true rfl ?_
  refine wSR (wP rfl rfl (wNT (wc_ret (wx_then_ret ?_))))
  first | (cases h; done) | simp at h
 replace h := cf hc h
 refine wl_run rfl (wP (v := .pointer (some ⟨b3, 0, none⟩)) rfl rfl (wl_run rfl (wl_val (v := .int .u64 p0.Frame) (val_load tt_ok rfl mH rfl) rfl (wl_run rfl (wP (v := .bool (decide ((9223372036854775808 : Int) < p0.Frame))) rfl rfl ?_)))))
 simp only [Option.some.injEq, Prod.mk.injEq] at h
 obtain rfl := h
 have h := hg14; clear hg14
 refine wP (v := .bool (decide ((9223372036854775808 : Int) < p0.Frame))) rfl rfl (wP rfl rfl ?_)
 obtain ⟨v18, h, hg18⟩ := bsome h
 refine wl_split (t := 15) rfl (fun hc => ?_) (fun hc => ?_)
 ·replace h := ct hc h
  iterate 2 refine wl_skip rfl rfl ?_
  simp only [Option.some.injEq, Prod.mk.injEq] at h
  obtain rfl := h
  have h := hg18; clear hg18
  refine wP (v := .bool true) rfl rfl (wP rfl rfl ?_)
  obtain ⟨v22, h, hg22⟩ := bsome h
  replace h := ct rfl h
  iterate 2 refine wl_skip rfl rfl ?_
  simp only [Option.some.injEq, Prod.mk.injEq] at h
  obtain rfl := h
  have h := hg22; clear hg22
  refine wP (v := .bool true) rfl rfl (wP rfl rfl ?_)
  obtain ⟨v26, h, hg26⟩ := bsome h
  replace h := ct rfl h
  iterate 2 refine wl_skip rfl rfl ?_
  simp only [Option.some.injEq, Prod.mk.injEq] at h
  obtain rfl := h
  have h := hg26; clear hg26
  refine wP (v := .bool true) rfl rfl (wNT ?_)
  replace h := ct rfl h
  refine wc_cond_true rfl ?_
  refine wSR (wP rfl rfl (wNT (wc_ret (wx_then_ret ?_))))
  first | (cases h; done) | simp at h
 replace h := cf hc h
 refine wl_run rfl (wP rfl rfl (wl_run rfl (wP (v := .bool (decide ((1 : Int) < p1))) rfl rfl ?_)))
 simp only [Option.some.injEq, Prod.mk.injEq] at h
 obtain rfl := h
 have h := hg18; clear hg18
 refine wP (v := .bool (decide ((1 : Int) < p1))) rfl rfl (wP rfl rfl ?_)
 obtain ⟨v22, h, hg22⟩ := bsome h
 refine wl_split (t := 19) rfl (fun hc => ?_) (fun hc => ?_)
 ·replace h := ct hc h
  iterate 2 refine wl_skip rfl rfl ?_
  simp only [Option.some.injEq, Prod.mk.injEq] at h
  obtain rfl := h
  have h := hg22; clear hg22
  refine wP (v := .bool true) rfl rfl (wP rfl rfl ?_)
  obtain ⟨v26, h, hg26⟩ := bsome h
  replace h := ct rfl h
  iterate 2 refine wl_skip rfl rfl ?_
  simp only [Option.some.injEq, Prod.mk.injEq] at h
  obtain rfl := h
  have h := hg26; clear hg26
  refine wP (v := .bool true) rfl rfl (wNT ?_)
  replace h := ct rfl h
  refine wc_cond_true rfl ?_
  refine wSR (wP rfl rfl (wNT (wc_ret (wx_then_ret ?_))))
  first | (cases h; done) | simp at h
 replace h := cf hc h
 refine wl_run rfl (wP rfl rfl (wl_run rfl (wP (v := .bool (decide (p2 < (1 : Int)))) rfl rfl ?_)))
 simp only [Option.some.injEq, Prod.mk.injEq] at h
 obtain rfl := h
 have h := hg22; clear hg22
 refine wP (v := .bool (decide (p2 < (1 : Int)))) rfl rfl (wP rfl rfl ?_)
 obtain ⟨v26, h, hg26⟩ := bsome h
 refine wl_split (t := 23) rfl (fun hc => ?_) (fun hc => ?_)
 ·replace h := ct hc h
  iterate 2 refine wl_skip rfl rfl ?_
  simp only [Option.some.injEq, Prod.mk.injEq] at h
  obtain rfl := h
  have h := hg26; clear hg26
  refine wP (v := .bool true) rfl rfl (wNT ?_)
  replace h := ct rfl h
  refine wc_cond_true rfl ?_
  refine wSR (wP rfl rfl (wNT (wc_ret (wx_then_ret ?_))))
  first | (cases h; done) | simp at h
 replace h := cf hc h
 refine wl_run rfl (wP rfl rfl (wl_run rfl (wP (v := .bool (decide ((12 : Int) < p2))) rfl rfl ?_)))
 simp only [Option.some.injEq, Prod.mk.injEq] at h
 obtain rfl := h
 have h := hg26; clear hg26
 refine wP (v := .bool (decide ((12 : Int) < p2))) rfl rfl (wNT (wc_cond rfl (fun hc => ?_) (fun hc => ?_)))
 ·replace h := ct hc h
  refine wSR (wP rfl rfl (wNT (wc_ret (wx_then_ret ?_))))
  first | (cases h; done) | simp at h
 replace h := cf hc h
 refine wc_skip (wx_then (wc_seq (wc_k2 (Ls := (⟨b3, (st19 p0 p0a0 p0n0 p0c0 []), 30, (0, 0)⟩ :: [])) [3, 6, 7, 8, 9] [7, 8, 9] [0, 0, 0, 4, 0, 16, 60, 127, 255, 511] [0, 1, 2, 4, 5, 3, 6, 7, 8, 9] (by kernel_rfl) (by kernel_rfl) (by kernel_rfl) ?_)))
 iterate 2 refine k_val rfl rfl rfl (pSub (pH pNil)) (sV rfl) rfl ?_
 refine k_val (v := agS p0 p0a0 p0n0 p0c0) rfl rfl rfl (pSub (pH pNil)) (val_load tt_ok rfl mH rfl) rfl (k_val (v := .pointer (some ⟨b3, 0, none⟩)) rfl rfl rfl (pSub (pH pNil)) (sV rfl) rfl ?_)
 refine k_val (v := .int .u64 p0.Frame) rfl rfl rfl (pSub (pH pNil)) (val_load tt_ok rfl mH rfl) rfl ?_
 obtain ⟨v30, x30, h⟩ := bsome h
 refine k_cs rfl rfl rfl Tryz.call6 rfl rfl rfl (s_sp (k_hindcastref08_Copy (p0 := p0) p0N0 p0H0 x30) pNil (Rds.call p0S0 pNil rsub_nil)) rfl (.inr (by rintro _ _ ⟨_, ⟨_, _, _, _, _, _, rfl, rfl⟩, rfl⟩; exact ⟨_, (pCons (sA hC) pNil)⟩)) ?_
 rintro _ _ ⟨_, ⟨v30a0, v30n0, v30c0, v30B0, v30N0, v30V0, rfl, rfl⟩, rfl⟩
 obtain ⟨v33, x33, h⟩ := bsome h
 refine k_cs rfl rfl rfl Tryz.call25 rfl rfl rfl (s_sp (k_hindcastref24_New x33) pNil (fun _ _ => trivial)) rfl (.inr (by rintro _ _ ⟨_, ⟨_, _, _, _, _, _, _, rfl, rfl⟩, rfl⟩; exact ⟨_, (pCons (sC (sAA hC)) pNil)⟩)) ?_
 rintro _ _ ⟨_, ⟨za, v33a0, v33n0, v33c0, v33B0, v33N0, v33V0, rfl, rfl⟩, rfl⟩
 refine k_chg rfl rfl rfl (Chg.of_val (v := .agg #[.int .u8 p1, .int .i64 p2, .int .u64 v30.Frame, .int .u64 v30.Seed, .int .i32 v30.Players.1.X, .int .i32 v30.Players.1.Y, .int .i32 v30.Players.1.VX, .int .i32 v30.Players.1.VY, .int .u8 v30.Players.1.Health, .int .u8 v30.Players.1.Cool, .int .u8 v30.Players.1.Face, .int .i32 v30.Players.2.X, .int .i32 v30.Players.2.Y, .int .i32 v30.Players.2.VX, .int .i32 v30.Players.2.VY, .int .u8 v30.Players.2.Health, .int .u8 v30.Players.2.Cool, .int .u8 v30.Players.2.Face, .slice v30a0 v30n0 v30c0, .int .u16 v30.Score.1, .int .u16 v30.Score.2, .slice none 0 0, .pointer (some ⟨za, 0, none⟩)]) (sV rfl)) rfl (.inl rfl) ?_
 rintro _ _ ⟨rfl, rfl⟩
 refine k_chg rfl rfl rfl (chg_box rfl rfl) rfl (.inl rfl) ?_
 rintro _ _ ⟨b35, rfl, rfl⟩
 refine k_chg rfl rfl rfl (Chg.of_val (sV rfl)) rfl (.inl rfl) ?_
 rintro _ _ ⟨rfl, rfl⟩
 refine k_end (by kernel_rfl) ?_
 refine wx_then (wc_ret ?_)
 simp only [Option.some.injEq] at h
 obtain rfl := h
 exact wx_spD tt_ok (.inl rfl) Tryz.results7 (Res.tmp rfl Res.nil) ⟨b35, za, v30a0, v30n0, v30c0, v30B0, none, 0, 0, [], v33a0, v33n0, v33c0, v33B0, v30N0, v30V0, rfl, Own.zero, v33N0, v33V0, rfl, rfl⟩ (fun F => by simp) (pSub (pH (pApp (sCA hA') (pNo (pH (pA pNil))))))

theorem k_hindcastref26_New_none {F : Nat} {p0 : T_api_State} {p0a0 : Option Addr} {p0n0 p0c0 : Nat} {p1 : Int} {p2 : Int} (p0N0 : p0n0 = p0.Shots.length) (p0H0 : p0n0 ≤ p0c0) (h : m_hindcastref26_New F p0 p1 p2 = some none) :
    SpD Tryz.prog 7 [agS p0 p0a0 p0n0 p0c0, .int .u8 p1, .int .i64 p2] [] (fun w => Rds w (ids []) [] p0a0 (flat c_T_api_Shot p0.Shots)) (fun v D => v = .pointer none ∧ D = fun F => F) := by
 unfold m_hindcastref26_New at h
 refine sp_of_wc Tryz.func7 rfl Tryz.ntmps7 rfl rfl (fun w0 hR => ?_)
 have p0S0 := hR
 refine wSR (wl_box rfl rfl rfl (fun b3 => (wP rfl rfl (wNT (wc_seq (wSR (wl_val (v := agS p0 p0a0 p0n0 p0c0) (val_load tt_ok rfl mH rfl) rfl ?_)))))))
 obtain ⟨v8, x8, h⟩ := bsome h
 refine wl_cq Tryz.call24 rfl rfl rfl (q_pf (k_hindcastref08_Check (p0 := p0) p0N0 p0H0 x8) (Rds.call p0S0 pNil rsub_nil)) rfl ?_
 refine wP (v := .bool (v8 != (0 : Int))) rfl rfl (wP rfl rfl ?_)
 obtain ⟨v14, h, hg14⟩ := bsome h
 refine wl_split (t := 10) rfl (fun hc => ?_) (fun hc => ?_)
 ·replace h := ct hc h
  iterate 3 refine wl_skip rfl rfl ?_
  simp only [Option.some.injEq, Prod.mk.injEq] at h
  obtain rfl := h
  have h := hg14; clear hg14
  refine wP (v := .bool true) rfl rfl (wP rfl rfl ?_)
  obtain ⟨v18, h, hg18⟩ := bsome h
  replace h := ct rfl h
  iterate 2 refine wl_skip rfl rfl ?_
  simp only [Option.some.injEq, Prod.mk.injEq] at h
  obtain rfl := h
  have h := hg18; clear hg18
  refine wP (v := .bool true) rfl rfl (wP rfl rfl ?_)
  obtain ⟨v22, h, hg22⟩ := bsome h
  replace h := ct rfl h
  iterate 2 refine wl_skip rfl rfl ?_
  simp only [Option.some.injEq, Prod.mk.injEq] at h
  obtain rfl := h
  have h := hg22; clear hg22
  refine wP (v := .bool true) rfl rfl (wP rfl rfl ?_)
  obtain ⟨v26, h, hg26⟩ := bsome h
  replace h := ct rfl h
  iterate 2 refine wl_skip rfl rfl ?_
  simp only [Option.some.injEq, Prod.mk.injEq] at h
  obtain rfl := h
  have h := hg26; clear hg26
  refine wP (v := .bool true) rfl rfl (wNT ?_)
  replace h := ct rfl h
  refine wc_cond_true rfl ?_
  refine wSR (wP rfl rfl (wNT (wc_ret (wx_then_ret ?_))))
  simp only [Option.some.injEq] at h
  exact wx_spD tt_ok (.inl rfl) Tryz.results7 (Res.tmp rfl Res.nil) ⟨rfl, rfl⟩ (fun F => by simp) (pSub pNil)
 replace h := cf hc h
 refine wl_run rfl (wP (v := .pointer (some ⟨b3, 0, none⟩)) rfl rfl (wl_run rfl (wl_val (v := .int .u64 p0.Frame) (val_load tt_ok rfl mH rfl) rfl (wl_run rfl (wP (v := .bool (decide ((9223372036854775808 : Int) < p0.Frame))) rfl rfl ?_)))))
 simp only [Option.some.injEq, Prod.mk.injEq] at h
 obtain rfl := h
 have h := hg14; clear hg14
 refine wP (v := .bool (decide ((9223372036854775808 : Int) < p0.Frame))) rfl rfl (wP rfl rfl ?_)
 obtain ⟨v18, h, hg18⟩ := bsome h
 refine wl_split (t := 15) rfl (fun hc => ?_) (fun hc => ?_)
 ·replace h := ct hc h
  iterate 2 refine wl_skip rfl rfl ?_
  simp only [Option.some.injEq, Prod.mk.injEq] at h
  obtain rfl := h
  have h := hg18; clear hg18
  refine wP (v := .bool true) rfl rfl (wP rfl rfl ?_)
  obtain ⟨v22, h, hg22⟩ := bsome h
  replace h := ct rfl h
  iterate 2 refine wl_skip rfl rfl ?_
  simp only [Option.some.injEq, Prod.mk.injEq] at h
  obtain rfl := h
  have h := hg22; clear hg22
  refine wP (v := .bool true) rfl rfl (wP rfl rfl ?_)
  obtain ⟨v26, h, hg26⟩ := bsome h
  replace h := ct rfl h
  iterate 2 refine wl_skip rfl rfl ?_
  simp only [Option.some.injEq, Prod.mk.injEq] at h
  obtain rfl := h
  have h := hg26; clear hg26
  refine wP (v := .bool true) rfl rfl (wNT ?_)
  replace h := ct rfl h
  refine wc_cond_true rfl ?_
  refine wSR (wP rfl rfl (wNT (wc_ret (wx_then_ret ?_))))
  simp only [Option.some.injEq] at h
  exact wx_spD tt_ok (.inl rfl) Tryz.results7 (Res.tmp rfl Res.nil) ⟨rfl, rfl⟩ (fun F => by simp) (pSub pNil)
 replace h := cf hc h
 refine wl_run rfl (wP rfl rfl (wl_run rfl (wP (v := .bool (decide ((1 : Int) < p1))) rfl rfl ?_)))
 simp only [Option.some.injEq, Prod.mk.injEq] at h
 obtain rfl := h
 have h := hg18; clear hg18
 refine wP (v := .bool (decide ((1 : Int) < p1))) rfl rfl (wP rfl rfl ?_)
 obtain ⟨v22, h, hg22⟩ := bsome h
 refine wl_split (t := 19) rfl (fun hc => ?_) (fun hc => ?_)
 ·replace h := ct hc h
  iterate 2 refine wl_skip rfl rfl ?_
  simp only [Option.some.injEq, Prod.mk.injEq] at h
  obtain rfl := h
  have h := hg22; clear hg22
  refine wP (v := .bool true) rfl rfl (wP rfl rfl ?_)
  obtain ⟨v26, h, hg26⟩ := bsome h
  replace h := ct rfl h
  iterate 2 refine wl_skip rfl rfl ?_
  simp only [Option.some.injEq, Prod.mk.injEq] at h
  obtain rfl := h
  have h := hg26; clear hg26
  refine wP (v := .bool true) rfl rfl (wNT ?_)
  replace h := ct rfl h
  refine wc_cond_true rfl ?_
  refine wSR (wP rfl rfl (wNT (wc_ret (wx_then_ret ?_))))
  simp only [Option.some.injEq] at h
  exact wx_spD tt_ok (.inl rfl) Tryz.results7 (Res.tmp rfl Res.nil) ⟨rfl, rfl⟩ (fun F => by simp) (pSub pNil)
 replace h := cf hc h
 refine wl_run rfl (wP rfl rfl (wl_run rfl (wP (v := .bool (decide (p2 < (1 : Int)))) rfl rfl ?_)))
 simp only [Option.some.injEq, Prod.mk.injEq] at h
 obtain rfl := h
 have h := hg22; clear hg22
 refine wP (v := .bool (decide (p2 < (1 : Int)))) rfl rfl (wP rfl rfl ?_)
 obtain ⟨v26, h, hg26⟩ := bsome h
 refine wl_split (t := 23) rfl (fun hc => ?_) (fun hc => ?_)
 ·replace h := ct hc h
  iterate 2 refine wl_skip rfl rfl ?_
  simp only [Option.some.injEq, Prod.mk.injEq] at h
  obtain rfl := h
  have h := hg26; clear hg26
  refine wP (v := .bool true) rfl rfl (wNT ?_)
  replace h := ct rfl h
  refine wc_cond_true rfl ?_
  refine wSR (wP rfl rfl (wNT (wc_ret (wx_then_ret ?_))))
  simp only [Option.some.injEq] at h
  exact wx_spD tt_ok (.inl rfl) Tryz.results7 (Res.tmp rfl Res.nil) ⟨rfl, rfl⟩ (fun F => by simp) (pSub pNil)
 replace h := cf hc h
 refine wl_run rfl (wP rfl rfl (wl_run rfl (wP (v := .bool (decide ((12 : Int) < p2))) rfl rfl ?_)))
 simp only [Option.some.injEq, Prod.mk.injEq] at h
 obtain rfl := h
 have h := hg26; clear hg26
 refine wP (v := .bool (decide ((12 : Int) < p2))) rfl rfl (wNT (wc_cond rfl (fun hc => ?_) (fun hc => ?_)))
 ·replace h := ct hc h
  refine wSR (wP rfl rfl (wNT (wc_ret (wx_then_ret ?_))))
  simp only [Option.some.injEq] at h
  exact wx_spD tt_ok (.inl rfl) Tryz.results7 (Res.tmp rfl Res.nil) ⟨rfl, rfl⟩ (fun F => by simp) (pSub pNil)
 replace h := cf hc h
 refine wc_skip (wx_then (wc_seq (wc_k2 (Ls := (⟨b3, (st19 p0 p0a0 p0n0 p0c0 []), 30, (0, 0)⟩ :: [])) [3, 6, 7, 8, 9] [7, 8, 9] [0, 0, 0, 4, 0, 16, 60, 127, 255, 511] [0, 1, 2, 4, 5, 3, 6, 7, 8, 9] (by kernel_rfl) (by kernel_rfl) (by kernel_rfl) ?_)))
 iterate 2 refine k_val rfl rfl rfl (pSub (pH pNil)) (sV rfl) rfl ?_
 refine k_val (v := agS p0 p0a0 p0n0 p0c0) rfl rfl rfl (pSub (pH pNil)) (val_load tt_ok rfl mH rfl) rfl (k_val (v := .pointer (some ⟨b3, 0, none⟩)) rfl rfl rfl (pSub (pH pNil)) (sV rfl) rfl ?_)
 refine k_val (v := .int .u64 p0.Frame) rfl rfl rfl (pSub (pH pNil)) (val_load tt_ok rfl mH rfl) rfl ?_
 obtain ⟨v30, x30, h⟩ := bsome h
 refine k_cs rfl rfl rfl Tryz.call6 rfl rfl rfl (s_sp (k_hindcastref08_Copy (p0 := p0) p0N0 p0H0 x30) pNil (Rds.call p0S0 pNil rsub_nil)) rfl (.inr (by rintro _ _ ⟨_, ⟨_, _, _, _, _, _, rfl, rfl⟩, rfl⟩; exact ⟨_, (pCons (sA hC) pNil)⟩)) ?_
 rintro _ _ ⟨_, ⟨v30a0, v30n0, v30c0, v30B0, v30N0, v30V0, rfl, rfl⟩, rfl⟩
 obtain ⟨v33, x33, h⟩ := bsome h
 refine k_cs rfl rfl rfl Tryz.call25 rfl rfl rfl (s_sp (k_hindcastref24_New x33) pNil (fun _ _ => trivial)) rfl (.inr (by rintro _ _ ⟨_, ⟨_, _, _, _, _, _, _, rfl, rfl⟩, rfl⟩; exact ⟨_, (pCons (sC (sAA hC)) pNil)⟩)) ?_
 rintro _ _ ⟨_, ⟨za, v33a0, v33n0, v33c0, v33B0, v33N0, v33V0, rfl, rfl⟩, rfl⟩
 refine k_chg rfl rfl rfl (Chg.of_val (v := .agg #[.int .u8 p1, .int .i64 p2, .int .u64 v30.Frame, .int .u64 v30.Seed, .int .i32 v30.Players.1.X, .int .i32 v30.Players.1.Y, .int .i32 v30.Players.1.VX, .int .i32 v30.Players.1.VY, .int .u8 v30.Players.1.Health, .int .u8 v30.Players.1.Cool, .int .u8 v30.Players.1.Face, .int .i32 v30.Players.2.X, .int .i32 v30.Players.2.Y, .int .i32 v30.Players.2.VX, .int .i32 v30.Players.2.VY, .int .u8 v30.Players.2.Health, .int .u8 v30.Players.2.Cool, .int .u8 v30.Players.2.Face, .slice v30a0 v30n0 v30c0, .int .u16 v30.Score.1, .int .u16 v30.Score.2, .slice none 0 0, .pointer (some ⟨za, 0, none⟩)]) (sV rfl)) rfl (.inl rfl) ?_
 rintro _ _ ⟨rfl, rfl⟩
 refine k_chg rfl rfl rfl (chg_box rfl rfl) rfl (.inl rfl) ?_
 rintro _ _ ⟨b35, rfl, rfl⟩
 refine k_chg rfl rfl rfl (Chg.of_val (sV rfl)) rfl (.inl rfl) ?_
 rintro _ _ ⟨rfl, rfl⟩
 refine k_end (by kernel_rfl) ?_
 refine wx_then (wc_ret ?_)
 first | (cases h; done) | simp at h

theorem k_hindcastref26_Engine_Local {F : Nat} {p0 : T_hindcastref26_Engine} {p0b p0t : Nat} {p0a0 : Option Addr} {p0n0 p0c0 : Nat} {p0B0 : List Blk} {p0a1 : Option Addr} {p0n1 p0c1 : Nat} {p0B1 : List Blk} {p0_4 : T_hindcastref24_Queue} {p0_4b p0_4t : Nat} {p0_4a0 : Option Addr} {p0_4n0 p0_4c0 : Nat} {p0_4B0 : List Blk} {p1 : Int} {r0 : T_hindcastref26_Engine} {r1 : Int} (p0N0 : p0n0 = p0.Sure.Shots.length) (p0V0 : Own 93 6 p0a0 p0n0 p0c0 (flat c_T_api_Shot p0.Sure.Shots) p0B0) (p0N1 : p0n1 = p0.Own.length) (p0V1 : Own 40 1 p0a1 p0n1 p0c1 (flat (e1 .u8) p0.Own) p0B1) (p0_4N0 : p0_4n0 = p0_4.L.length) (p0_4V0 : Own 40 1 p0_4a0 p0_4n0 p0_4c0 (flat (e1 .u8) p0_4.L) p0_4B0) (h : m_hindcastref26_Engine_Local F p0 p0_4 p1 = some (r0, r1)) :
    SpD Tryz.prog 9 [.pointer (some ⟨p0b, 0, none⟩), .int .u8 p1] (⟨p0b, (.int .u8 p0.Player :: .int .i64 p0.Window :: st19 p0.Sure p0a0 p0n0 p0c0 [.slice p0a1 p0n1 p0c1, .pointer (some ⟨p0_4b, 0, none⟩)]), p0t, (0, 0)⟩ :: (p0B0 ++ (p0B1 ++ (⟨p0_4b, [.int .u64 p0_4.Begin, .int .u64 p0_4.First, .slice p0_4a0 p0_4n0 p0_4c0], p0_4t, (0, 0)⟩ :: (p0_4B0 ++ []))))) (fun w => True) (fun v D => ∃ (r0a0 : Option Addr) (r0n0 r0c0 : Nat) (r0B0 : List Blk) (r0a1 : Option Addr) (r0n1 r0c1 : Nat) (r0B1 : List Blk), r0n0 = r0.Sure.Shots.length ∧ Own 93 6 r0a0 r0n0 r0c0 (flat c_T_api_Shot r0.Sure.Shots) r0B0 ∧ r0n1 = r0.Own.length ∧ Own 40 1 r0a1 r0n1 r0c1 (flat (e1 .u8) r0.Own) r0B1 ∧ v = .int .i64 r1 ∧ D = fun F => (⟨p0b, (.int .u8 r0.Player :: .int .i64 r0.Window :: st19 r0.Sure r0a0 r0n0 r0c0 [.slice r0a1 r0n1 r0c1, .pointer (some ⟨p0_4b, 0, none⟩)]), p0t, (0, 0)⟩ :: (r0B0 ++ (r0B1 ++ (⟨p0_4b, [.int .u64 p0_4.Begin, .int .u64 p0_4.First, .slice p0_4a0 p0_4n0 p0_4c0], p0_4t, (0, 0)⟩ :: (p0_4B0 ++ F)))))) := by
 unfold m_hindcastref26_Engine_Local at h
 refine sp_of_wc Tryz.func9 rfl Tryz.ntmps9 rfl rfl (fun w0 hR => ?_)
 refine wSR (wP rfl rfl (wNT (wc_seq (wSR (wP rfl rfl (wP (v := .bool (decide ((64 : Int) ≤ p1))) rfl rfl (wNT (wc_cond rfl (fun hc => ?_) (fun hc => ?_)))))))))
 ·replace h := ct hc h
  refine wSR (wP rfl rfl (wNT (wc_ret (wx_then_ret ?_))))
  obtain ⟨rfl, rfl⟩ := pJ2 h
  exact wx_spD tt_ok (.inl rfl) Tryz.results9 (Res.tmp rfl Res.nil) ⟨p0a0, p0n0, p0c0, p0B0, p0a1, p0n1, p0c1, p0B1, p0N0, p0V0, p0N1, p0V1, rfl, rfl⟩ (fun F => by simp) (pSub (pH (pAA (pH (pA pNil)))))
 replace h := cf hc h
 refine wc_skip (wx_then (wc_seq (wc_seq (wc_quiet (by kernel_rfl) (by kernel_rfl) ?_))))
 iterate 2 refine qP rfl rfl ?_
 refine qP (v := .pointer (some ⟨p0b, 21, none⟩)) rfl rfl (wq_val (v := .slice p0a1 p0n1 p0c1) (val_load tt_ok rfl mH rfl) rfl (wq_val (v := .int .i64 (p0.Own.length : Int)) (val_len tt_ok rfl rfl p0N1) rfl ?_))
 iterate 2 refine qP rfl rfl ?_
 refine qP (v := .pointer (some ⟨p0b, 1, none⟩)) rfl rfl (wq_val (v := .int .i64 p0.Window) (val_load tt_ok rfl mH rfl) rfl (qP (v := .bool (decide (p0.Window ≤ (p0.Own.length : Int)))) rfl rfl (wq_nil (wx_then (wc_cond rfl (fun hc => ?_) (fun hc => ?_))))))
 ·replace h := ct hc h
  refine wSR (wP rfl rfl (wNT (wc_ret (wx_then_ret ?_))))
  obtain ⟨rfl, rfl⟩ := pJ2 h
  exact wx_spD tt_ok (.inl rfl) Tryz.results9 (Res.tmp rfl Res.nil) ⟨p0a0, p0n0, p0c0, p0B0, p0a1, p0n1, p0c1, p0B1, p0N0, p0V0, p0N1, p0V1, rfl, rfl⟩ (fun F => by simp) (pSub (pH (pAA (pH (pA pNil)))))
 replace h := cf hc h
 refine wc_skip (wx_then (wSR ?_))
 iterate 3 refine wP rfl rfl ?_
 refine wP (v := .pointer (some ⟨p0b, 21, none⟩)) rfl rfl (wl_val (v := .slice p0a1 p0n1 p0c1) (val_load tt_ok rfl mH rfl) rfl (wP rfl rfl (wl_chg (chg_bsv (enc := (e1 .u8)) (xs := ([p1] : List Int)) tt_ok rfl rfl rfl rfl rfl rfl rfl rfl (e1_len _)) rfl ?_)))
 rintro _ _ ⟨a23, n23_, c23, B23, rfl, N23, V23, rfl⟩
 obtain ⟨v24, x24, h⟩ := bsome h
 refine wl_chg (chg_app (enc := (e1 .u8)) (ys := ([p1] : List Int)) tt_ok rfl rfl rfl rfl rfl rfl p0N1 N23 p0V1 (sA (sCA hA')) (Rds.of_vec V23) ⟨_, hA'⟩ (e1_len _) (fun _ => rfl) rfl x24) rfl ?_
 rintro _ _ ⟨a24, n24_, c24, B24, rfl, N24, V24, rfl⟩
 refine wP rfl rfl (wP (v := .pointer (some ⟨p0b, 21, none⟩)) rfl rfl ?_)
 apply wl_store tt_ok; rfl; exact (Upd.right (Upd.right Upd.here)); rfl; rfl; rfl; rfl; rfl; rfl
 refine wNT (wSR (wP rfl rfl (wNT (wc_ret ?_))))
 obtain ⟨rfl, rfl⟩ := pJ2 h
 exact wx_spD tt_ok (.inl rfl) Tryz.results9 (Res.tmp rfl Res.nil) ⟨p0a0, p0n0, p0c0, p0B0, a24, n24_, c24, B24, p0N0, p0V0, N24, V24, rfl, rfl⟩ (fun F => by simp) (pSub (pCons (sAA hC) (pApp (sAA hA') (pA (pCons (sA hC) (pApp (sA hA') pNil))))))

theorem k_hindcastref24_Queue_Known {F : Nat} {p0 : T_hindcastref24_Queue} {p0b p0t : Nat} {p0a0 : Option Addr} {p0n0 p0c0 : Nat} {p0B0 : List Blk} {r0 : Int} (p0N0 : p0n0 = p0.L.length) (p0V0 : Own 40 1 p0a0 p0n0 p0c0 (flat (e1 .u8) p0.L) p0B0) (h : m_hindcastref24_Queue_Known F p0 = some r0) :
    Rd2 Tryz.prog 42 [.pointer (some ⟨p0b, 0, none⟩)] (⟨p0b, [.int .u64 p0.Begin, .int .u64 p0.First, .slice p0a0 p0n0 p0c0], p0t, (0, 0)⟩ :: (p0B0 ++ [])) (fun w => True) (.int .u64 r0) := by
 unfold m_hindcastref24_Queue_Known at h
 refine sp_of_wc Tryz.func42 rfl Tryz.ntmps42 rfl rfl (fun w0 hR => ?_)
 refine wSR (wP rfl rfl (wNT (wc_seq (wc_quiet (by kernel_rfl) (by kernel_rfl) ?_))))
 iterate 2 refine qP rfl rfl ?_
 refine qP (v := .pointer (some ⟨p0b, 0, none⟩)) rfl rfl (wq_val (v := .int .u64 p0.Begin) (val_load tt_ok rfl mH rfl) rfl ?_)
 iterate 2 refine qP rfl rfl ?_
 refine qP (v := .pointer (some ⟨p0b, 2, none⟩)) rfl rfl (wq_val (v := .slice p0a0 p0n0 p0c0) (val_load tt_ok rfl mH rfl) rfl (wq_val (v := .int .i64 (p0.L.length : Int)) (val_len tt_ok rfl rfl p0N0) rfl (qP (v := .int .u64 (IntKind.wrap .u64 (p0.L.length : Int))) rfl rfl (qP (v := .int .u64 (IntKind.wrap .u64 (p0.Begin + (IntKind.wrap .u64 (p0.L.length : Int))))) rfl rfl (qP rfl rfl (wq_nil (wx_then (wc_ret ?_))))))))
 obtain rfl := sI h
 exact wx_rd tt_ok (.inl rfl) Tryz.results42 (Res.tmp rfl Res.nil) (pSub (pH (pA pNil))) rfl

theorem k_hindcastref24_Queue_At {F : Nat} {p0 : T_hindcastref24_Queue} {p0b p0t : Nat} {p0a0 : Option Addr} {p0n0 p0c0 : Nat} {p0B0 : List Blk} {p1 : Int} {r0 : Int} {r1 : Bool} (p0N0 : p0n0 = p0.L.length) (p0V0 : Own 40 1 p0a0 p0n0 p0c0 (flat (e1 .u8) p0.L) p0B0) (h : m_hindcastref24_Queue_At F p0 p1 = some (r0, r1)) :
    Rd2 Tryz.prog 62 [.pointer (some ⟨p0b, 0, none⟩), .int .u64 p1] (⟨p0b, [.int .u64 p0.Begin, .int .u64 p0.First, .slice p0a0 p0n0 p0c0], p0t, (0, 0)⟩ :: (p0B0 ++ [])) (fun w => True) (.tuple #[.int .u8 r0, .bool r1]) := by
 unfold m_hindcastref24_Queue_At at h
 refine sp_of_wc Tryz.func62 rfl Tryz.ntmps62 rfl rfl (fun w0 hR => ?_)
 refine wSR ?_
 iterate 2 refine wP rfl rfl ?_
 refine wNT (wc_seq (wSR ?_))
 iterate 3 refine wP rfl rfl ?_
 refine wP (v := .pointer (some ⟨p0b, 1, none⟩)) rfl rfl (wl_val (v := .int .u64 p0.First) (val_load tt_ok rfl mH rfl) rfl (wP (v := .bool (decide (p1 < p0.First))) rfl rfl (wP rfl rfl ?_)))
 obtain ⟨v17, h, hg17⟩ := bsome h
 refine wl_split (t := 12) rfl (fun hc => ?_) (fun hc => ?_)
 ·replace h := ct hc h
  iterate 4 refine wl_skip rfl rfl ?_
  obtain rfl := sI h
  have h := hg17; clear hg17
  refine wP (v := .bool true) rfl rfl (wNT ?_)
  replace h := ct rfl h
  refine wc_cond_true rfl ?_
  refine wSR ?_
  iterate 2 refine wP rfl rfl ?_
  refine wNT (wc_ret (wx_then_ret ?_))
  obtain ⟨rfl, rfl⟩ := pJ2 h
  exact wx_rd tt_ok (.inl rfl) Tryz.results62 (Res.tmp rfl (Res.tmp rfl Res.nil)) (pSub (pH (pA pNil))) rfl
 replace h := cf hc h
 refine wl_run rfl (wP rfl rfl (wl_run rfl (wP rfl rfl ?_)))
 obtain ⟨v15, x15, h⟩ := bsome h
 refine wl_run rfl (wl_cq Tryz.call42 rfl rfl rfl (q_rd (k_hindcastref24_Queue_Known (p0 := p0) p0N0 p0V0 x15) (pH (pA pNil)) (fun _ _ => trivial)) rfl (wl_run rfl (wP (v := .bool (decide (v15 ≤ p1))) rfl rfl ?_)))
 obtain rfl := sI h
 have h := hg17; clear hg17
 refine wP (v := .bool (decide (v15 ≤ p1))) rfl rfl (wNT (wc_cond rfl (fun hc => ?_) (fun hc => ?_)))
 ·replace h := ct hc h
  refine wSR ?_
  iterate 2 refine wP rfl rfl ?_
  refine wNT (wc_ret (wx_then_ret ?_))
  obtain ⟨rfl, rfl⟩ := pJ2 h
  exact wx_rd tt_ok (.inl rfl) Tryz.results62 (Res.tmp rfl (Res.tmp rfl Res.nil)) (pSub (pH (pA pNil))) rfl
 replace h := cf hc h
 refine wc_skip (wx_then (wc_seq (wc_quiet (by kernel_rfl) (by kernel_rfl) ?_)))
 iterate 2 refine qP rfl rfl ?_
 refine qP (v := .pointer (some ⟨p0b, 2, none⟩)) rfl rfl (wq_val (v := .slice p0a0 p0n0 p0c0) (val_load tt_ok rfl mH rfl) rfl ?_)
 iterate 3 refine qP rfl rfl ?_
 refine qP (v := .pointer (some ⟨p0b, 0, none⟩)) rfl rfl (wq_val (v := .int .u64 p0.Begin) (val_load tt_ok rfl mH rfl) rfl (qP (v := .int .u64 (IntKind.wrap .u64 (p1 - p0.Begin))) rfl rfl ?_))
 obtain ⟨v28, x28, h⟩ := bsome h
 refine wq_val (v := .pointer (some ((adOf p0a0).add ((IntKind.wrap .u64 (p1 - p0.Begin)).toNat * 1 + 0)))) (val_ix (enc := (e1 .u8)) tt_ok rfl rfl rfl rfl p0N0 (Rds.of_vec p0V0) (e1_len _) rfl x28) rfl ?_
 refine wq_val (v := .int .u8 v28) (val_le (enc := (e1 .u8)) (xs := p0.L) tt_ok rfl (Rds.of_vec p0V0) ⟨_, (sC hA')⟩ (e1_len _) x28 rfl) rfl ?_
 iterate 2 refine qP rfl rfl ?_
 refine wq_nil (wx_then (wc_ret ?_))
 obtain ⟨rfl, rfl⟩ := pJ2 h
 exact wx_rd tt_ok (.inl rfl) Tryz.results62 (Res.tmp rfl (Res.tmp rfl Res.nil)) (pSub (pH (pA pNil))) rfl

theorem k_hindcastref24_Queue_Guess {F : Nat} {p0 : T_hindcastref24_Queue} {p0b p0t : Nat} {p0a0 : Option Addr} {p0n0 p0c0 : Nat} {p0B0 : List Blk} {p1 : Int} {r0 : Int} (p0N0 : p0n0 = p0.L.length) (p0V0 : Own 40 1 p0a0 p0n0 p0c0 (flat (e1 .u8) p0.L) p0B0) (h : m_hindcastref24_Queue_Guess F p0 p1 = some r0) :
    Rd2 Tryz.prog 93 [.pointer (some ⟨p0b, 0, none⟩), .int .u64 p1] (⟨p0b, [.int .u64 p0.Begin, .int .u64 p0.First, .slice p0a0 p0n0 p0c0], p0t, (0, 0)⟩ :: (p0B0 ++ [])) (fun w => True) (.int .u8 r0) := by
 unfold m_hindcastref24_Queue_Guess at h
 refine sp_of_wc Tryz.func93 rfl Tryz.ntmps93 rfl rfl (fun w0 hR => ?_)
 refine wSR (wP rfl rfl (wNT (wSR ?_)))
 iterate 2 refine wP rfl rfl ?_
 replace h := bsome h; obtain ⟨⟨za, zb⟩, x10, h⟩ := h; try dsimp only at h
 refine wl_cq Tryz.call62 rfl rfl rfl (q_rd (k_hindcastref24_Queue_At (p0 := p0) p0N0 p0V0 x10) (pH (pA pNil)) (fun _ _ => trivial)) rfl ?_
 iterate 5 refine wP rfl rfl ?_
 refine wNT (wc_seq (wSR (wP rfl rfl (wNT (wc_cond rfl (fun hc => ?_) (fun hc => ?_))))))
 ·replace h := ct hc h
  refine wSR ?_
  iterate 2 refine wP rfl rfl ?_
  refine wNT (wc_ret (wx_then_ret ?_))
  obtain rfl := sI h
  exact wx_rd tt_ok (.inl rfl) Tryz.results93 (Res.tmp rfl Res.nil) (pSub (pH (pA pNil))) rfl
 replace h := cf hc h
 refine wc_skip (wx_then (wc_seq (wSR ?_)))
 iterate 2 refine wP rfl rfl ?_
 refine wP (v := .pointer (some ⟨p0b, 2, none⟩)) rfl rfl (wl_val (v := .slice p0a0 p0n0 p0c0) (val_load tt_ok rfl mH rfl) rfl (wl_val (v := .int .i64 (p0.L.length : Int)) (val_len tt_ok rfl rfl p0N0) rfl (wP (v := .bool ((p0.L.length : Int) == (0 : Int))) rfl rfl (wNT (wc_cond rfl (fun hc => ?_) (fun hc => ?_))))))
 ·replace h := ct hc h
  refine wSR (wP rfl rfl (wNT (wc_ret (wx_then_ret ?_))))
  obtain rfl := sI h
  exact wx_rd tt_ok (.inl rfl) Tryz.results93 (Res.tmp rfl Res.nil) (pSub (pH (pA pNil))) rfl
 replace h := cf hc h
 refine wc_skip (wx_then (wc_seq (wc_quiet (by kernel_rfl) (by kernel_rfl) ?_)))
 iterate 2 refine qP rfl rfl ?_
 refine qP (v := .pointer (some ⟨p0b, 2, none⟩)) rfl rfl (wq_val (v := .slice p0a0 p0n0 p0c0) (val_load tt_ok rfl mH rfl) rfl ?_)
 iterate 2 refine qP rfl rfl ?_
 refine qP (v := .pointer (some ⟨p0b, 2, none⟩)) rfl rfl (wq_val (v := .slice p0a0 p0n0 p0c0) (val_load tt_ok rfl mH rfl) rfl (wq_val (v := .int .i64 (p0.L.length : Int)) (val_len tt_ok rfl rfl p0N0) rfl (qP (v := .int .i64 (IntKind.wrap .i64 ((p0.L.length : Int) - (1 : Int)))) rfl rfl ?_)))
 obtain ⟨v31, x31, h⟩ := bsome h
 refine wq_val (v := .pointer (some ((adOf p0a0).add ((IntKind.wrap .i64 ((p0.L.length : Int) - (1 : Int))).toNat * 1 + 0)))) (val_ix (enc := (e1 .u8)) tt_ok rfl rfl rfl rfl p0N0 (Rds.of_vec p0V0) (e1_len _) rfl x31) rfl ?_
 refine wq_val (v := .int .u8 v31) (val_le (enc := (e1 .u8)) (xs := p0.L) tt_ok rfl (Rds.of_vec p0V0) ⟨_, (sC hA')⟩ (e1_len _) x31 rfl) rfl ?_
 refine qP rfl rfl (wq_nil (wx_then (wc_ret ?_)))
 obtain rfl := sI h
 exact wx_rd tt_ok (.inl rfl) Tryz.results93 (Res.tmp rfl Res.nil) (pSub (pH (pA pNil))) rfl

theorem k_hindcastref26_Engine_pair {F : Nat} {p0 : T_hindcastref26_Engine} {p0b p0t : Nat} {p0a0 : Option Addr} {p0n0 p0c0 : Nat} {p0B0 : List Blk} {p0a1 : Option Addr} {p0n1 p0c1 : Nat} {p0B1 : List Blk} {p0_4 : T_hindcastref24_Queue} {p0_4b p0_4t : Nat} {p0_4a0 : Option Addr} {p0_4n0 p0_4c0 : Nat} {p0_4B0 : List Blk} {p1 : Int} {r0 : (Int × Int)} (p0N0 : p0n0 = p0.Sure.Shots.length) (p0V0 : Own 93 6 p0a0 p0n0 p0c0 (flat c_T_api_Shot p0.Sure.Shots) p0B0) (p0N1 : p0n1 = p0.Own.length) (p0V1 : Own 40 1 p0a1 p0n1 p0c1 (flat (e1 .u8) p0.Own) p0B1) (p0_4N0 : p0_4n0 = p0_4.L.length) (p0_4V0 : Own 40 1 p0_4a0 p0_4n0 p0_4c0 (flat (e1 .u8) p0_4.L) p0_4B0) (h : m_hindcastref26_Engine_pair F p0 p0_4 p1 = some r0) :
    Rd2 Tryz.prog 73 [.pointer (some ⟨p0b, 0, none⟩), .int .u64 p1] (⟨p0b, (.int .u8 p0.Player :: .int .i64 p0.Window :: st19 p0.Sure p0a0 p0n0 p0c0 [.slice p0a1 p0n1 p0c1, .pointer (some ⟨p0_4b, 0, none⟩)]), p0t, (0, 0)⟩ :: (p0B0 ++ (p0B1 ++ (⟨p0_4b, [.int .u64 p0_4.Begin, .int .u64 p0_4.First, .slice p0_4a0 p0_4n0 p0_4c0], p0_4t, (0, 0)⟩ :: (p0_4B0 ++ []))))) (fun w => True) (.agg #[.int .u8 r0.1, .int .u8 r0.2]) := by
 unfold m_hindcastref26_Engine_pair at h
 refine sp_of_wc Tryz.func73 rfl Tryz.ntmps73 rfl rfl (fun w0 hR => ?_)
 refine wSR (wl_alloc tt_ok rfl rfl (fun b4 => (wNT (wSR (wP (v := .agg #[.int .u8 (0 : Int), .int .u8 (0 : Int)]) rfl rfl (wl_alloc tt_ok rfl rfl (fun b5 => ?_)))))))
 apply wl_store tt_ok; rfl; exact Upd.here; rfl; rfl; rfl; rfl; rfl; rfl
 refine wNT (wc_seq (wc_k2 (Ls := (⟨b5, [.int .u8 (0 : Int), .int .u8 (0 : Int)], 49, (0, 0)⟩ :: (⟨b4, [.int .u8 (0 : Int), .int .u8 (0 : Int)], 49, (0, 0)⟩ :: (⟨p0b, (.int .u8 p0.Player :: .int .i64 p0.Window :: st19 p0.Sure p0a0 p0n0 p0c0 [.slice p0a1 p0n1 p0c1, .pointer (some ⟨p0_4b, 0, none⟩)]), p0t, (0, 0)⟩ :: (p0B0 ++ (p0B1 ++ (⟨p0_4b, [.int .u64 p0_4.Begin, .int .u64 p0_4.First, .slice p0_4a0 p0_4n0 p0_4c0], p0_4t, (0, 0)⟩ :: (p0_4B0 ++ [])))))))) [18] [18] [0, 1, 3, 7, 0, 16, 48, 112, 0, 0, 512, 1536, 3584, 7680, 16128, 32752, 65520, 131071, 262143] [0, 1, 2, 3, 4, 5, 6, 7, 8, 9, 10, 11, 12, 13, 14, 15, 16, 17, 18] (by kernel_rfl) (by kernel_rfl) (by kernel_rfl) ?_))
 iterate 2 refine k_val rfl rfl rfl (pSub (pHH (pH (pAA (pH (pA pNil)))))) (sV rfl) rfl ?_
 refine k_val (v := .pointer (some ⟨p0b, 0, none⟩)) rfl rfl rfl (pSub (pHH (pH (pAA (pH (pA pNil)))))) (sV rfl) rfl (k_val (v := .int .u8 p0.Player) rfl rfl rfl (pSub (pHH (pH (pAA (pH (pA pNil)))))) (val_load tt_ok rfl (mTT mH) rfl) rfl ?_)
 iterate 2 refine k_val rfl rfl rfl (pSub (pHH (pH (pAA (pH (pA pNil)))))) (sV rfl) rfl ?_
 refine k_val (v := .pointer (some ⟨p0b, 21, none⟩)) rfl rfl rfl (pSub (pHH (pH (pAA (pH (pA pNil)))))) (sV rfl) rfl (k_val (v := .slice p0a1 p0n1 p0c1) rfl rfl rfl (pSub (pHH (pH (pAA (pH (pA pNil)))))) (val_load tt_ok rfl (mTT mH) rfl) rfl ?_)
 iterate 3 refine k_val rfl rfl rfl (pSub (pHH (pH (pAA (pH (pA pNil)))))) (sV rfl) rfl ?_
 iterate 2 refine k_val (v := .pointer (some ⟨p0b, 2, none⟩)) rfl rfl rfl (pSub (pHH (pH (pAA (pH (pA pNil)))))) (sV rfl) rfl ?_
 refine k_val (v := .int .u64 p0.Sure.Frame) rfl rfl rfl (pSub (pHH (pH (pAA (pH (pA pNil)))))) (val_load tt_ok rfl (mTT mH) rfl) rfl (k_val (v := .int .u64 (IntKind.wrap .u64 (p1 - p0.Sure.Frame))) rfl rfl rfl (pSub (pHH (pH (pAA (pH (pA pNil)))))) (sV rfl) rfl ?_)
 obtain ⟨v22, x22, h⟩ := bsome h
 refine k_val (v := .pointer (some ((adOf p0a1).add ((IntKind.wrap .u64 (p1 - p0.Sure.Frame)).toNat * 1 + 0)))) rfl rfl rfl (pSub (pHH (pH (pAA (pH (pA pNil)))))) (val_ix (enc := (e1 .u8)) tt_ok rfl rfl rfl rfl p0N1 (Rds.of_vec p0V1) (e1_len _) rfl x22) rfl (k_val (v := .int .u8 v22) rfl rfl rfl (pSub (pHH (pH (pAA (pH (pA pNil)))))) (val_le (enc := (e1 .u8)) (xs := p0.Own) tt_ok rfl (Rds.of_vec p0V1) ⟨_, (sCC (sCA hA'))⟩ (e1_len _) x22 rfl) rfl ?_)
 rcases Bool.eq_false_or_eq_true (p0.Player == (0 : Int)) with hx240 | hx240
 ·replace h := ct hx240 h
  refine k_val (v := .pointer (some ⟨b5, 0, none⟩)) rfl rfl rfl (pSub (pHH (pH (pAA (pH (pA pNil)))))) (val_ia (j := 0) tt_ok rfl rfl rfl rfl (by simpa using hx240) rfl rfl) rfl (k_chg0 rfl rfl rfl (chg_store tt_ok rfl Upd.here rfl rfl rfl rfl rfl rfl) (.inl rfl) ?_)
  rintro _ _ rfl
  refine k_end (by kernel_rfl) ?_
  refine wx_then (wc_seq (wc_k2 (Ls := (⟨b5, [.int .u8 v22, .int .u8 (0 : Int)], 49, (0, 0)⟩ :: (⟨b4, [.int .u8 (0 : Int), .int .u8 (0 : Int)], 49, (0, 0)⟩ :: (⟨p0b, (.int .u8 p0.Player :: .int .i64 p0.Window :: st19 p0.Sure p0a0 p0n0 p0c0 [.slice p0a1 p0n1 p0c1, .pointer (some ⟨p0_4b, 0, none⟩)]), p0t, (0, 0)⟩ :: (p0B0 ++ (p0B1 ++ (⟨p0_4b, [.int .u64 p0_4.Begin, .int .u64 p0_4.First, .slice p0_4a0 p0_4n0 p0_4c0], p0_4t, (0, 0)⟩ :: (p0_4B0 ++ [])))))))) [10, 11, 12] [11, 12] [0, 1, 3, 7, 15, 0, 32, 96, 224, 0, 992, 2047, 4095] [0, 1, 2, 3, 4, 5, 6, 7, 8, 9, 10, 11, 12] (by kernel_rfl) (by kernel_rfl) (by kernel_rfl) ?_))
  iterate 2 refine k_val rfl rfl rfl (pSub (pHH (pH (pAA (pH (pA pNil)))))) (sV rfl) rfl ?_
  refine k_val (v := .pointer (some ⟨p0b, 0, none⟩)) rfl rfl rfl (pSub (pHH (pH (pAA (pH (pA pNil)))))) (sV rfl) rfl (k_val (v := .int .u8 p0.Player) rfl rfl rfl (pSub (pHH (pH (pAA (pH (pA pNil)))))) (val_load tt_ok rfl (mTT mH) rfl) rfl (k_val (v := .int .u8 (IntKind.wrap .u8 ((1 : Int) - p0.Player))) rfl rfl rfl (pSub (pHH (pH (pAA (pH (pA pNil)))))) (sV rfl) rfl ?_))
  iterate 2 refine k_val rfl rfl rfl (pSub (pHH (pH (pAA (pH (pA pNil)))))) (sV rfl) rfl ?_
  refine k_val (v := .pointer (some ⟨p0b, 22, none⟩)) rfl rfl rfl (pSub (pHH (pH (pAA (pH (pA pNil)))))) (sV rfl) rfl (k_val (v := .pointer (some ⟨p0_4b, 0, none⟩)) rfl rfl rfl (pSub (pHH (pH (pAA (pH (pA pNil)))))) (val_load tt_ok rfl (mTT mH) rfl) rfl (k_val rfl rfl rfl (pSub (pHH (pH (pAA (pH (pA pNil)))))) (sV rfl) rfl ?_))
  obtain ⟨v35, x35, h⟩ := bsome h
  refine k_cq rfl rfl rfl Tryz.call93 rfl rfl rfl (q_rd (k_hindcastref24_Queue_Guess (p0 := p0_4) p0_4N0 p0_4V0 x35) (pCons (sCC (sC (sAA hC))) (pApp (sCC (sC (sAA hA'))) pNil)) (fun _ _ => trivial)) rfl (pSub (pHH (pH (pAA (pH (pA pNil)))))) ?_
  rcases Bool.eq_false_or_eq_true ((IntKind.wrap .u8 ((1 : Int) - p0.Player)) == (0 : Int)) with hx360 | hx360
  ·replace h := ct hx360 h
   refine k_chg rfl rfl rfl (Chg.of_val (v := .pointer (some ⟨b5, 0, none⟩)) (val_ia (j := 0) tt_ok rfl rfl rfl rfl (by simpa using hx360) rfl rfl)) rfl (.inl rfl) ?_
   rintro _ _ ⟨rfl, rfl⟩
   refine k_chg0 rfl rfl rfl (chg_store tt_ok rfl Upd.here rfl rfl rfl rfl rfl rfl) (.inl rfl) ?_
   rintro _ _ rfl
   refine k_end (by kernel_rfl) ?_
   refine wx_then (wSR (wl_val (v := .agg #[.int .u8 v35, .int .u8 (0 : Int)]) (val_load tt_ok rfl mH rfl) rfl ?_))
   apply wl_store tt_ok; rfl; exact (Upd.there Upd.here); rfl; rfl; rfl; rfl; rfl; rfl
   refine wNT (wc_ret ?_)
   obtain rfl := sI h
   exact wx_rd tt_ok (.inl rfl) Tryz.results73 (Res.cell rfl (mT mH) rfl Res.nil) (pSub (pCons (sCC hC) (pApp (sCC hA') (pApp (sCC hA') (pCons (sCC hC) (pApp (sCC hA') pNil)))))) rfl
  replace h := cf hx360 h
  rcases Bool.eq_false_or_eq_true ((IntKind.wrap .u8 ((1 : Int) - p0.Player)) == (1 : Int)) with hx361 | hx361
  ·replace h := ct hx361 h
   refine k_chg rfl rfl rfl (Chg.of_val (v := .pointer (some ⟨b5, 1, none⟩)) (val_ia (j := 1) tt_ok rfl rfl rfl rfl (by simpa using hx361) rfl rfl)) rfl (.inl rfl) ?_
   rintro _ _ ⟨rfl, rfl⟩
   refine k_chg0 rfl rfl rfl (chg_store tt_ok rfl Upd.here rfl rfl rfl rfl rfl rfl) (.inl rfl) ?_
   rintro _ _ rfl
   refine k_end (by kernel_rfl) ?_
   refine wx_then (wSR (wl_val (v := .agg #[.int .u8 v22, .int .u8 v35]) (val_load tt_ok rfl mH rfl) rfl ?_))
   apply wl_store tt_ok; rfl; exact (Upd.there Upd.here); rfl; rfl; rfl; rfl; rfl; rfl
   refine wNT (wc_ret ?_)
   obtain rfl := sI h
   exact wx_rd tt_ok (.inl rfl) Tryz.results73 (Res.cell rfl (mT mH) rfl Res.nil) (pSub (pCons (sCC hC) (pApp (sCC hA') (pApp (sCC hA') (pCons (sCC hC) (pApp (sCC hA') pNil)))))) rfl
  replace h := cf hx361 h
  cases h
 replace h := cf hx240 h
 rcases Bool.eq_false_or_eq_true (p0.Player == (1 : Int)) with hx241 | hx241
 ·replace h := ct hx241 h
  refine k_val (v := .pointer (some ⟨b5, 1, none⟩)) rfl rfl rfl (pSub (pHH (pH (pAA (pH (pA pNil)))))) (val_ia (j := 1) tt_ok rfl rfl rfl rfl (by simpa using hx241) rfl rfl) rfl (k_chg0 rfl rfl rfl (chg_store tt_ok rfl Upd.here rfl rfl rfl rfl rfl rfl) (.inl rfl) ?_)
  rintro _ _ rfl
  refine k_end (by kernel_rfl) ?_
  refine wx_then (wc_seq (wc_k2 (Ls := (⟨b5, [.int .u8 (0 : Int), .int .u8 v22], 49, (0, 0)⟩ :: (⟨b4, [.int .u8 (0 : Int), .int .u8 (0 : Int)], 49, (0, 0)⟩ :: (⟨p0b, (.int .u8 p0.Player :: .int .i64 p0.Window :: st19 p0.Sure p0a0 p0n0 p0c0 [.slice p0a1 p0n1 p0c1, .pointer (some ⟨p0_4b, 0, none⟩)]), p0t, (0, 0)⟩ :: (p0B0 ++ (p0B1 ++ (⟨p0_4b, [.int .u64 p0_4.Begin, .int .u64 p0_4.First, .slice p0_4a0 p0_4n0 p0_4c0], p0_4t, (0, 0)⟩ :: (p0_4B0 ++ [])))))))) [10, 11, 12] [11, 12] [0, 1, 3, 7, 15, 0, 32, 96, 224, 0, 992, 2047, 4095] [0, 1, 2, 3, 4, 5, 6, 7, 8, 9, 10, 11, 12] (by kernel_rfl) (by kernel_rfl) (by kernel_rfl) ?_))
  iterate 2 refine k_val rfl rfl rfl (pSub (pHH (pH (pAA (pH (pA pNil)))))) (sV rfl) rfl ?_
  refine k_val (v := .pointer (some ⟨p0b, 0, none⟩)) rfl rfl rfl (pSub (pHH (pH (pAA (pH (pA pNil)))))) (sV rfl) rfl (k_val (v := .int .u8 p0.Player) rfl rfl rfl (pSub (pHH (pH (pAA (pH (pA pNil)))))) (val_load tt_ok rfl (mTT mH) rfl) rfl (k_val (v := .int .u8 (IntKind.wrap .u8 ((1 : Int) - p0.Player))) rfl rfl rfl (pSub (pHH (pH (pAA (pH (pA pNil)))))) (sV rfl) rfl ?_))
  iterate 2 refine k_val rfl rfl rfl (pSub (pHH (pH (pAA (pH (pA pNil)))))) (sV rfl) rfl ?_
  refine k_val (v := .pointer (some ⟨p0b, 22, none⟩)) rfl rfl rfl (pSub (pHH (pH (pAA (pH (pA pNil)))))) (sV rfl) rfl (k_val (v := .pointer (some ⟨p0_4b, 0, none⟩)) rfl rfl rfl (pSub (pHH (pH (pAA (pH (pA pNil)))))) (val_load tt_ok rfl (mTT mH) rfl) rfl (k_val rfl rfl rfl (pSub (pHH (pH (pAA (pH (pA pNil)))))) (sV rfl) rfl ?_))
  obtain ⟨v35, x35, h⟩ := bsome h
  refine k_cq rfl rfl rfl Tryz.call93 rfl rfl rfl (q_rd (k_hindcastref24_Queue_Guess (p0 := p0_4) p0_4N0 p0_4V0 x35) (pCons (sCC (sC (sAA hC))) (pApp (sCC (sC (sAA hA'))) pNil)) (fun _ _ => trivial)) rfl (pSub (pHH (pH (pAA (pH (pA pNil)))))) ?_
  rcases Bool.eq_false_or_eq_true ((IntKind.wrap .u8 ((1 : Int) - p0.Player)) == (0 : Int)) with hx360 | hx360
  ·replace h := ct hx360 h
   refine k_chg rfl rfl rfl (Chg.of_val (v := .pointer (some ⟨b5, 0, none⟩)) (val_ia (j := 0) tt_ok rfl rfl rfl rfl (by simpa using hx360) rfl rfl)) rfl (.inl rfl) ?_
   rintro _ _ ⟨rfl, rfl⟩
   refine k_chg0 rfl rfl rfl (chg_store tt_ok rfl Upd.here rfl rfl rfl rfl rfl rfl) (.inl rfl) ?_
   rintro _ _ rfl
   refine k_end (by kernel_rfl) ?_
   refine wx_then (wSR (wl_val (v := .agg #[.int .u8 v35, .int .u8 v22]) (val_load tt_ok rfl mH rfl) rfl ?_))
   apply wl_store tt_ok; rfl; exact (Upd.there Upd.here); rfl; rfl; rfl; rfl; rfl; rfl
   refine wNT (wc_ret ?_)
   obtain rfl := sI h
   exact wx_rd tt_ok (.inl rfl) Tryz.results73 (Res.cell rfl (mT mH) rfl Res.nil) (pSub (pCons (sCC hC) (pApp (sCC hA') (pApp (sCC hA') (pCons (sCC hC) (pApp (sCC hA') pNil)))))) rfl
  replace h := cf hx360 h
  rcases Bool.eq_false_or_eq_true ((IntKind.wrap .u8 ((1 : Int) - p0.Player)) == (1 : Int)) with hx361 | hx361
  ·replace h := ct hx361 h
   refine k_chg rfl rfl rfl (Chg.of_val (v := .pointer (some ⟨b5, 1, none⟩)) (val_ia (j := 1) tt_ok rfl rfl rfl rfl (by simpa using hx361) rfl rfl)) rfl (.inl rfl) ?_
   rintro _ _ ⟨rfl, rfl⟩
   refine k_chg0 rfl rfl rfl (chg_store tt_ok rfl Upd.here rfl rfl rfl rfl rfl rfl) (.inl rfl) ?_
   rintro _ _ rfl
   refine k_end (by kernel_rfl) ?_
   refine wx_then (wSR (wl_val (v := .agg #[.int .u8 (0 : Int), .int .u8 v35]) (val_load tt_ok rfl mH rfl) rfl ?_))
   apply wl_store tt_ok; rfl; exact (Upd.there Upd.here); rfl; rfl; rfl; rfl; rfl; rfl
   refine wNT (wc_ret ?_)
   obtain rfl := sI h
   exact wx_rd tt_ok (.inl rfl) Tryz.results73 (Res.cell rfl (mT mH) rfl Res.nil) (pSub (pCons (sCC hC) (pApp (sCC hA') (pApp (sCC hA') (pCons (sCC hC) (pApp (sCC hA') pNil)))))) rfl
  replace h := cf hx361 h
  cases h
 replace h := cf hx241 h
 cases h

theorem k_hindcastref26_Engine_Next {F : Nat} {p0 : T_hindcastref26_Engine} {p0b p0t : Nat} {p0a0 : Option Addr} {p0n0 p0c0 : Nat} {p0B0 : List Blk} {p0a1 : Option Addr} {p0n1 p0c1 : Nat} {p0B1 : List Blk} {p0_4 : T_hindcastref24_Queue} {p0_4b p0_4t : Nat} {p0_4a0 : Option Addr} {p0_4n0 p0_4c0 : Nat} {p0_4B0 : List Blk} {r0 : (Int × Int)} {r1 : Bool} (p0N0 : p0n0 = p0.Sure.Shots.length) (p0V0 : Own 93 6 p0a0 p0n0 p0c0 (flat c_T_api_Shot p0.Sure.Shots) p0B0) (p0N1 : p0n1 = p0.Own.length) (p0V1 : Own 40 1 p0a1 p0n1 p0c1 (flat (e1 .u8) p0.Own) p0B1) (p0_4N0 : p0_4n0 = p0_4.L.length) (p0_4V0 : Own 40 1 p0_4a0 p0_4n0 p0_4c0 (flat (e1 .u8) p0_4.L) p0_4B0) (h : m_hindcastref26_Engine_Next F p0 p0_4 = some (r0, r1)) :
    Rd2 Tryz.prog 37 [.pointer (some ⟨p0b, 0, none⟩)] (⟨p0b, (.int .u8 p0.Player :: .int .i64 p0.Window :: st19 p0.Sure p0a0 p0n0 p0c0 [.slice p0a1 p0n1 p0c1, .pointer (some ⟨p0_4b, 0, none⟩)]), p0t, (0, 0)⟩ :: (p0B0 ++ (p0B1 ++ (⟨p0_4b, [.int .u64 p0_4.Begin, .int .u64 p0_4.First, .slice p0_4a0 p0_4n0 p0_4c0], p0_4t, (0, 0)⟩ :: (p0_4B0 ++ []))))) (fun w => True) (.tuple #[.agg #[.int .u8 r0.1, .int .u8 r0.2], .bool r1]) := by
 unfold m_hindcastref26_Engine_Next at h
 refine sp_of_wc Tryz.func37 rfl Tryz.ntmps37 rfl rfl (fun w0 hR => ?_)
 refine wSR (wl_alloc tt_ok rfl rfl (fun b2 => (wP rfl rfl (wNT (wc_seq (wc_quiet (by kernel_rfl) (by kernel_rfl) ?_))))))
 iterate 2 refine qP rfl rfl ?_
 refine qP (v := .pointer (some ⟨p0b, 22, none⟩)) rfl rfl (wq_val (v := .pointer (some ⟨p0_4b, 0, none⟩)) (val_load tt_ok rfl (mT mH) rfl) rfl ?_)
 iterate 2 refine qP rfl rfl ?_
 iterate 2 refine qP (v := .pointer (some ⟨p0b, 2, none⟩)) rfl rfl ?_
 refine wq_val (v := .int .u64 p0.Sure.Frame) (val_load tt_ok rfl (mT mH) rfl) rfl ?_
 replace h := bsome h; obtain ⟨⟨zb, za⟩, x16, h⟩ := h; try dsimp only at h
 refine wq_cq Tryz.call62 rfl rfl rfl (q_rd (k_hindcastref24_Queue_At (p0 := p0_4) p0_4N0 p0_4V0 x16) (pCons (sCC (sAA hC)) (pApp (sCC (sAA hA')) pNil)) (fun _ _ => trivial)) rfl ?_
 iterate 5 refine qP rfl rfl ?_
 refine wq_nil (wx_then (wc_seq (wSR ?_)))
 iterate 2 refine wP rfl rfl ?_
 refine wP (v := .pointer (some ⟨p0b, 21, none⟩)) rfl rfl (wl_val (v := .slice p0a1 p0n1 p0c1) (val_load tt_ok rfl (mT mH) rfl) rfl (wl_val (v := .int .i64 (p0.Own.length : Int)) (val_len tt_ok rfl rfl p0N1) rfl (wP (v := .bool ((p0.Own.length : Int) == (0 : Int))) rfl rfl (wP rfl rfl ?_))))
 obtain ⟨v28, h, hg28⟩ := bsome h
 refine wl_split (t := 25) rfl (fun hc => ?_) (fun hc => ?_)
 ·replace h := ct hc h
  iterate 2 refine wl_skip rfl rfl ?_
  obtain rfl := sI h
  have h := hg28; clear hg28
  refine wP (v := .bool true) rfl rfl (wNT ?_)
  replace h := ct rfl h
  refine wc_cond_true rfl ?_
  refine wSR (wP (v := .agg #[.int .u8 (0 : Int), .int .u8 (0 : Int)]) rfl rfl ?_)
  apply wl_store tt_ok; rfl; exact Upd.here; rfl; rfl; rfl; rfl; rfl; rfl
  refine wP rfl rfl (wNT (wc_ret (wx_then_ret ?_)))
  obtain ⟨rfl, rfl⟩ := pJ2 h
  exact wx_rd tt_ok (.inl rfl) Tryz.results37 (Res.cell rfl mH rfl (Res.tmp rfl Res.nil)) (pSub (pS (qS (qS (pS (qS pNil)))))) rfl
 replace h := cf hc h
 refine wl_run rfl (wP rfl rfl (wl_run rfl (wP (v := .bool (!za)) rfl rfl ?_)))
 obtain rfl := sI h
 have h := hg28; clear hg28
 refine wP (v := .bool (!za)) rfl rfl (wNT (wc_cond rfl (fun hc => ?_) (fun hc => ?_)))
 ·replace h := ct hc h
  refine wSR (wP (v := .agg #[.int .u8 (0 : Int), .int .u8 (0 : Int)]) rfl rfl ?_)
  apply wl_store tt_ok; rfl; exact Upd.here; rfl; rfl; rfl; rfl; rfl; rfl
  refine wP rfl rfl (wNT (wc_ret (wx_then_ret ?_)))
  obtain ⟨rfl, rfl⟩ := pJ2 h
  exact wx_rd tt_ok (.inl rfl) Tryz.results37 (Res.cell rfl mH rfl (Res.tmp rfl Res.nil)) (pSub (pS (qS (qS (pS (qS pNil)))))) rfl
 replace h := cf hc h
 refine wc_skip (wx_then (wSR ?_))
 iterate 3 refine wP rfl rfl ?_
 refine wP (v := .pointer (some ⟨p0b, 2, none⟩)) rfl rfl (wP (v := .pointer (some ⟨p0b, 2, none⟩)) rfl rfl (wl_val (v := .int .u64 p0.Sure.Frame) (val_load tt_ok rfl (mT mH) rfl) rfl ?_))
 obtain ⟨v36, x36, h⟩ := bsome h
 refine wl_cq Tryz.call73 rfl rfl rfl (q_rd (k_hindcastref26_Engine_pair (p0 := p0) (p0_4 := p0_4) p0N0 p0V0 p0N1 p0V1 p0_4N0 p0_4V0 x36) (pS (qS (qS (pS (qS pNil))))) (fun _ _ => trivial)) rfl ?_
 apply wl_store tt_ok; rfl; exact Upd.here; rfl; rfl; rfl; rfl; rfl; rfl
 refine wP rfl rfl (wNT (wc_ret ?_))
 obtain ⟨rfl, rfl⟩ := pJ2 h
 exact wx_rd tt_ok (.inl rfl) Tryz.results37 (Res.cell rfl mH rfl (Res.tmp rfl Res.nil)) (pSub (pS (qS (qS (pS (qS pNil)))))) rfl

theorem k_hindcastref26_Engine_T {F : Nat} {p0 : T_hindcastref26_Engine} {p0b p0t : Nat} {p0a0 : Option Addr} {p0n0 p0c0 : Nat} {p0B0 : List Blk} {p0a1 : Option Addr} {p0n1 p0c1 : Nat} {p0B1 : List Blk} {p0_4 : T_hindcastref24_Queue} {p0_4b p0_4t : Nat} {p0_4a0 : Option Addr} {p0_4n0 p0_4c0 : Nat} {p0_4B0 : List Blk} {r0 : Int} (p0N0 : p0n0 = p0.Sure.Shots.length) (p0V0 : Own 93 6 p0a0 p0n0 p0c0 (flat c_T_api_Shot p0.Sure.Shots) p0B0) (p0N1 : p0n1 = p0.Own.length) (p0V1 : Own 40 1 p0a1 p0n1 p0c1 (flat (e1 .u8) p0.Own) p0B1) (p0_4N0 : p0_4n0 = p0_4.L.length) (p0_4V0 : Own 40 1 p0_4a0 p0_4n0 p0_4c0 (flat (e1 .u8) p0_4.L) p0_4B0) (h : m_hindcastref26_Engine_T F p0 p0_4 = some r0) :
    Rd2 Tryz.prog 40 [.pointer (some ⟨p0b, 0, none⟩)] (⟨p0b, (.int .u8 p0.Player :: .int .i64 p0.Window :: st19 p0.Sure p0a0 p0n0 p0c0 [.slice p0a1 p0n1 p0c1, .pointer (some ⟨p0_4b, 0, none⟩)]), p0t, (0, 0)⟩ :: (p0B0 ++ (p0B1 ++ (⟨p0_4b, [.int .u64 p0_4.Begin, .int .u64 p0_4.First, .slice p0_4a0 p0_4n0 p0_4c0], p0_4t, (0, 0)⟩ :: (p0_4B0 ++ []))))) (fun w => True) (.int .u64 r0) := by
 unfold m_hindcastref26_Engine_T at h
 refine sp_of_wc Tryz.func40 rfl Tryz.ntmps40 rfl rfl (fun w0 hR => ?_)
 refine wSR (wP rfl rfl (wNT (wc_seq (wc_quiet (by kernel_rfl) (by kernel_rfl) ?_))))
 iterate 2 refine qP rfl rfl ?_
 iterate 2 refine qP (v := .pointer (some ⟨p0b, 2, none⟩)) rfl rfl ?_
 refine wq_val (v := .int .u64 p0.Sure.Frame) (val_load tt_ok rfl mH rfl) rfl ?_
 iterate 2 refine qP rfl rfl ?_
 refine qP (v := .pointer (some ⟨p0b, 21, none⟩)) rfl rfl (wq_val (v := .slice p0a1 p0n1 p0c1) (val_load tt_ok rfl mH rfl) rfl (wq_val (v := .int .i64 (p0.Own.length : Int)) (val_len tt_ok rfl rfl p0N1) rfl (qP (v := .int .u64 (IntKind.wrap .u64 (p0.Own.length : Int))) rfl rfl (qP (v := .int .u64 (IntKind.wrap .u64 (p0.Sure.Frame + (IntKind.wrap .u64 (p0.Own.length : Int))))) rfl rfl (qP rfl rfl (wq_nil (wx_then (wc_ret ?_))))))))
 obtain rfl := sI h
 exact wx_rd tt_ok (.inl rfl) Tryz.results40 (Res.tmp rfl Res.nil) (pSub (pH (pAA (pH (pA pNil))))) rfl

theorem k_rollback_Engine_Known {F : Nat} {p0 : T_rollback_Engine} {p0b p0t : Nat} {p0a0 : Option Addr} {p0n0 p0c0 : Nat} {p0B0 : List Blk} {p0a1 : Option Addr} {p0n1 p0c1 : Nat} {p0B1 : List Blk} {p0_4 : T_queue_Queue} {p0_4b p0_4t : Nat} {p0_4a0 : Option Addr} {p0_4n0 p0_4c0 : Nat} {p0_4B0 : List Blk} {p0_5 : T_ring_Ring} {p0_5b p0_5t : Nat} {p0_5g0 : List (T_ring_place × G)} {p0_5P0 : List Blk} {r0 : Int} (p0N0 : p0n0 = p0.sure.Shots.length) (p0V0 : Own 93 6 p0a0 p0n0 p0c0 (flat c_T_api_Shot p0.sure.Shots) p0B0) (p0N1 : p0n1 = p0.own.length) (p0V1 : Own 40 1 p0a1 p0n1 p0c1 (flat (e1 .u8) p0.own) p0B1) (p0_4N0 : p0_4n0 = p0_4.l.length) (p0_4V0 : Own 40 1 p0_4a0 p0_4n0 p0_4c0 (flat (e1 .u8) p0_4.l) p0_4B0) (p0_5G0 : p0_5.places.1 = unG p0_5g0) (p0_5A0 : AllP sh_T_ring_place c_T_api_Shot p0_5P0 p0_5g0) (h : m_rollback_Engine_Known F p0 p0_4 p0_5 = some r0) :
    Rd2 Tryz.prog 41 [.pointer (some ⟨p0b, 0, none⟩)] (⟨p0b, (.int .u8 p0.player :: .int .i64 p0.window :: st19 p0.sure p0a0 p0n0 p0c0 [.slice p0a1 p0n1 p0c1, .pointer (some ⟨p0_4b, 0, none⟩), .pointer (some ⟨p0_5b, 0, none⟩)]), p0t, (0, 0)⟩ :: (p0B0 ++ (p0B1 ++ (⟨p0_4b, [.int .u64 p0_4.first_, .slice p0_4a0 p0_4n0 p0_4c0, .int .u8 p0_4.last], p0_4t, (0, 0)⟩ :: (p0_4B0 ++ (⟨p0_5b, ([.int .i64 p0_5.size] ++ flat cg_T_ring_place p0_5g0), p0_5t, (0, 0)⟩ :: (p0_5P0 ++ []))))))) (fun w => True) (.int .u64 r0) := by
 unfold m_rollback_Engine_Known at h
 refine sp_of_wc Tryz.func41 rfl Tryz.ntmps41 rfl rfl (fun w0 hR => ?_)
 refine wSR (wP rfl rfl (wNT (wc_seq (wSR (wP rfl rfl ?_)))))
 obtain ⟨v4, x4, h⟩ := bsome h
 refine wl_cq Tryz.call26 rfl rfl rfl (q_rd (k_rollback_Engine_is (p0 := p0) (p0_4 := p0_4) (p0_5 := p0_5) p0N0 p0V0 p0N1 p0V1 p0_4N0 p0_4V0 p0_5G0 p0_5A0 x4) (pH (pAA (pH (pA (pH (pA pNil)))))) (fun _ _ => trivial)) rfl ?_
 refine wP (v := .bool (!v4)) rfl rfl (wNT (wc_cond rfl (fun hc => ?_) (fun hc => ?_)))
 ·replace h := ct hc h
  refine wSR (wP rfl rfl (wNT (wc_ret (wx_then_ret ?_))))
  obtain rfl := sI h
  exact wx_rd tt_ok (.inl rfl) Tryz.results41 (Res.tmp rfl Res.nil) (pSub (pH (pAA (pH (pA (pH (pA pNil))))))) rfl
 replace h := cf hc h
 refine wc_skip (wx_then (wSR ?_))
 iterate 2 refine wP rfl rfl ?_
 refine wP (v := .pointer (some ⟨p0b, 22, none⟩)) rfl rfl (wl_val (v := .pointer (some ⟨p0_4b, 0, none⟩)) (val_load tt_ok rfl mH rfl) rfl ?_)
 obtain ⟨v10, x10, h⟩ := bsome h
 refine wl_cq Tryz.call28 rfl rfl rfl (q_rd (k_queue_Queue_Known (p0 := p0_4) p0_4N0 p0_4V0 x10) (pCons (sC (sAA hC)) (pApp (sC (sAA hA')) pNil)) (fun _ _ => trivial)) rfl ?_
 refine wP rfl rfl (wNT (wc_ret ?_))
 obtain rfl := sI h
 exact wx_rd tt_ok (.inl rfl) Tryz.results41 (Res.tmp rfl Res.nil) (pSub (pH (pAA (pH (pA (pH (pA pNil))))))) rfl

theorem k_hindcastref06_Same {F : Nat} {p0 : (List Int)} {p0a0 : Option Addr} {p0n0 p0c0 : Nat} {p1 : (List Int)} {p1a0 : Option Addr} {p1n0 p1c0 : Nat} {r0 : Bool} (p0N0 : p0n0 = p0.length) (p0H0 : p0n0 ≤ p0c0) (p1N0 : p1n0 = p1.length) (p1H0 : p1n0 ≤ p1c0) (h : m_hindcastref06_Same F p0 p1 = some r0) :
    Pf Tryz.prog 43 [.slice p0a0 p0n0 p0c0, .slice p1a0 p1n0 p1c0] (fun w => Rds w [] [] p0a0 (flat (e1 .u8) p0) ∧ Rds w [] [] p1a0 (flat (e1 .u8) p1)) (.bool r0) := by
 unfold m_hindcastref06_Same at h
 refine pf_of_wc Tryz.func43 rfl Tryz.ntmps43 rfl rfl (fun w0 hR => ?_)
 obtain ⟨p0S0, p1S0⟩ := hR
 refine wSR (wP rfl rfl (wNT (wc_seq (wSR (wP rfl rfl (wl_val (v := .int .i64 (p0.length : Int)) (val_len tt_ok rfl rfl p0N0) rfl (wP rfl rfl (wl_val (v := .int .i64 (p1.length : Int)) (val_len tt_ok rfl rfl p1N0) rfl (wP (v := .bool ((p0.length : Int) != (p1.length : Int))) rfl rfl (wNT (wc_cond rfl (fun hc => ?_) (fun hc => ?_))))))))))))
 ·replace h := ct hc h
  refine wSR (wP rfl rfl (wNT (wc_ret (wx_then_ret ?_))))
  obtain rfl := sI h
  exact wx_pf tt_ok (.inl rfl) Tryz.results43 (Res.tmp rfl Res.nil) rfl
 replace h := cf hc h
 refine wc_skip (wx_then (wc_seq (wSR (wP rfl rfl (wNT (wc_block ?_))))))
 obtain ⟨o15, h, hl15⟩ := bsome h
 refine wc_loop (fun m E L => ∃ (za : Int), m_hindcastref06_Same_L14 F p0 p1 m za = some o15 ∧ E = [(0, .slice p0a0 p0n0 p0c0), (1, .slice p1a0 p1n0 p1c0), (4, .bool false), (5, .int .i64 za)] ∧ L = []) F ⟨(0 : Int), h, rfl, rfl⟩ (agree_cons rfl (agree_cons rfl (agree_cons rfl (agree_cons rfl agree_nil)))) (pSub pNil) ?_
 clear h
 rintro m15 _ _ ⟨za, h, rfl, rfl⟩
 rcases m15 with _ | m15
 ·rw [m_hindcastref06_Same_L14.eq_1] at h; cases h
 rw [m_hindcastref06_Same_L14.eq_2] at h
 refine wc_seq (wSR ?_)
 iterate 2 refine wP rfl rfl ?_
 refine wl_val (v := .int .i64 (p0.length : Int)) (val_len tt_ok rfl rfl p0N0) rfl ?_
 refine wP (v := .bool (decide (za < (p0.length : Int)))) rfl rfl (wNT (wc_cond rfl (fun hc => ?_) (fun hc => ?_)))
 ·replace h := ct hc h
  refine wc_skip (wx_then (wc_seq (wc_block (wc_seq (wc_quiet (by kernel_rfl) (by kernel_rfl) ?_)))))
  iterate 2 refine qP rfl rfl ?_
  obtain ⟨v19, x19, h⟩ := bsome h
  refine wq_val (v := .pointer (some ((adOf p0a0).add (za.toNat * 1 + 0)))) (val_ix (enc := (e1 .u8)) tt_ok rfl rfl rfl rfl p0N0 p0S0 (e1_len _) rfl x19) rfl ?_
  refine wq_val (v := .int .u8 v19) (val_le (enc := (e1 .u8)) (xs := p0) tt_ok rfl p0S0 rsub_nil (e1_len _) x19 rfl) rfl ?_
  iterate 2 refine qP rfl rfl ?_
  obtain ⟨v23, x23, h⟩ := bsome h
  refine wq_val (v := .pointer (some ((adOf p1a0).add (za.toNat * 1 + 0)))) (val_ix (enc := (e1 .u8)) tt_ok rfl rfl rfl rfl p1N0 p1S0 (e1_len _) rfl x23) rfl ?_
  refine wq_val (v := .int .u8 v23) (val_le (enc := (e1 .u8)) (xs := p1) tt_ok rfl p1S0 rsub_nil (e1_len _) x23 rfl) rfl ?_
  refine qP (v := .bool (v19 != v23)) rfl rfl (wq_nil (wx_then (wc_cond rfl (fun hc => ?_) (fun hc => ?_))))
  ·replace h := ct hc h
   refine wSR (wP rfl rfl (wNT (wc_ret (wx_block_ret (wx_then_ret ?_)))))
   obtain rfl := Option.some.inj h
   have h := hl15; clear hl15; try dsimp only [orE_l, orE_r] at h
   refine wx_then_ret (wx_block_ret (wx_then_ret ?_))
   obtain rfl := sI h
   exact wx_pf tt_ok (.inl rfl) Tryz.results43 (Res.tmp rfl Res.nil) rfl
  replace h := cf hc h
  refine wc_skip (wx_block (wx_then (wc_region (wP rfl rfl (wP (v := .int .i64 (IntKind.wrap .i64 (za + (1 : Int)))) rfl rfl (wP rfl rfl (wl_nil ?_)))))))
  exact wx_round m15 (Nat.lt_succ_self m15) ⟨(IntKind.wrap .i64 (za + (1 : Int))), h, rfl, rfl⟩ (agree_cons rfl (agree_cons rfl (agree_cons rfl (agree_cons rfl agree_nil)))) (pSub pNil)
 replace h := cf hc h
 refine wc_exit (wx_then_exit ?_)
 obtain rfl := Option.some.inj h
 have h := hl15; clear hl15; try dsimp only [orE_l, orE_r] at h
 refine wx_then_exit (wx_block_exit (wx_then (wSR ?_)))
 refine wP rfl rfl (wNT (wc_ret ?_))
 obtain rfl := sI h
 exact wx_pf tt_ok (.inl rfl) Tryz.results43 (Res.tmp rfl Res.nil) rfl

theorem k_rollback_Engine_State {F : Nat} {p0 : T_rollback_Engine} {p0b p0t : Nat} {p0a0 : Option Addr} {p0n0 p0c0 : Nat} {p0B0 : List Blk} {p0a1 : Option Addr} {p0n1 p0c1 : Nat} {p0B1 : List Blk} {p0_4 : T_queue_Queue} {p0_4b p0_4t : Nat} {p0_4a0 : Option Addr} {p0_4n0 p0_4c0 : Nat} {p0_4B0 : List Blk} {p0_5 : T_ring_Ring} {p0_5b p0_5t : Nat} {p0_5g0 : List (T_ring_place × G)} {p0_5P0 : List Blk} {r0 : T_api_State} (p0N0 : p0n0 = p0.sure.Shots.length) (p0V0 : Own 93 6 p0a0 p0n0 p0c0 (flat c_T_api_Shot p0.sure.Shots) p0B0) (p0N1 : p0n1 = p0.own.length) (p0V1 : Own 40 1 p0a1 p0n1 p0c1 (flat (e1 .u8) p0.own) p0B1) (p0_4N0 : p0_4n0 = p0_4.l.length) (p0_4V0 : Own 40 1 p0_4a0 p0_4n0 p0_4c0 (flat (e1 .u8) p0_4.l) p0_4B0) (p0_5G0 : p0_5.places.1 = unG p0_5g0) (p0_5A0 : AllP sh_T_ring_place c_T_api_Shot p0_5P0 p0_5g0) (h : m_rollback_Engine_State F p0 p0_4 p0_5 = some r0) :
    SpD Tryz.prog 46 [.pointer (some ⟨p0b, 0, none⟩)] (⟨p0b, (.int .u8 p0.player :: .int .i64 p0.window :: st19 p0.sure p0a0 p0n0 p0c0 [.slice p0a1 p0n1 p0c1, .pointer (some ⟨p0_4b, 0, none⟩), .pointer (some ⟨p0_5b, 0, none⟩)]), p0t, (0, 0)⟩ :: (p0B0 ++ (p0B1 ++ (⟨p0_4b, [.int .u64 p0_4.first_, .slice p0_4a0 p0_4n0 p0_4c0, .int .u8 p0_4.last], p0_4t, (0, 0)⟩ :: (p0_4B0 ++ (⟨p0_5b, ([.int .i64 p0_5.size] ++ flat cg_T_ring_place p0_5g0), p0_5t, (0, 0)⟩ :: (p0_5P0 ++ []))))))) (fun w => True) (fun v D => ∃ (r0a0 : Option Addr) (r0n0 r0c0 : Nat) (r0B0 : List Blk), r0n0 = r0.Shots.length ∧ Own 93 6 r0a0 r0n0 r0c0 (flat c_T_api_Shot r0.Shots) r0B0 ∧ v = agS r0 r0a0 r0n0 r0c0 ∧ D = fun F => (⟨p0b, (.int .u8 p0.player :: .int .i64 p0.window :: st19 p0.sure p0a0 p0n0 p0c0 [.slice p0a1 p0n1 p0c1, .pointer (some ⟨p0_4b, 0, none⟩), .pointer (some ⟨p0_5b, 0, none⟩)]), p0t, (0, 0)⟩ :: (p0B0 ++ (p0B1 ++ (⟨p0_4b, [.int .u64 p0_4.first_, .slice p0_4a0 p0_4n0 p0_4c0, .int .u8 p0_4.last], p0_4t, (0, 0)⟩ :: (p0_4B0 ++ (⟨p0_5b, ([.int .i64 p0_5.size] ++ flat cg_T_ring_place p0_5g0), p0_5t, (0, 0)⟩ :: (p0_5P0 ++ (r0B0 ++ F))))))))) := by
 unfold m_rollback_Engine_State at h
 refine sp_of_wc Tryz.func46 rfl Tryz.ntmps46 rfl rfl (fun w0 hR => ?_)
 refine wSR (wl_alloc tt_ok rfl rfl (fun b2 => (wNT (wc_seq (wSR (wP rfl rfl ?_))))))
 obtain ⟨v4, x4, h⟩ := bsome h
 refine wl_cq Tryz.call26 rfl rfl rfl (q_rd (k_rollback_Engine_is (p0 := p0) (p0_4 := p0_4) (p0_5 := p0_5) p0N0 p0V0 p0N1 p0V1 p0_4N0 p0_4V0 p0_5G0 p0_5A0 x4) (pS (qS (qS (pS (qS (pS (qS pNil))))))) (fun _ _ => trivial)) rfl ?_
 refine wP (v := .bool (!v4)) rfl rfl (wNT (wc_cond rfl (fun hc => ?_) (fun hc => ?_)))
 ·replace h := ct hc h
  refine wSR (wP (v := .agg #[.int .u64 (0 : Int), .int .u64 (0 : Int), .int .i32 (0 : Int), .int .i32 (0 : Int), .int .i32 (0 : Int), .int .i32 (0 : Int), .int .u8 (0 : Int), .int .u8 (0 : Int), .int .u8 (0 : Int), .int .i32 (0 : Int), .int .i32 (0 : Int), .int .i32 (0 : Int), .int .i32 (0 : Int), .int .u8 (0 : Int), .int .u8 (0 : Int), .int .u8 (0 : Int), .slice none 0 0, .int .u16 (0 : Int), .int .u16 (0 : Int)]) rfl rfl ?_)
  apply wl_store tt_ok; rfl; exact Upd.here; rfl; rfl; rfl; rfl; rfl; rfl
  refine wNT (wc_ret (wx_then_ret ?_))
  obtain rfl := sI h
  exact wx_spD tt_ok (.inl rfl) Tryz.results46 (Res.cell rfl mH rfl Res.nil) ⟨none, 0, 0, [], rfl, Own.zero, rfl, rfl⟩ (fun F => by simp) (pSub (pS (qS (qS (pS (qS (pS (qS (pNo pNil)))))))))
 replace h := cf hc h
 refine wc_skip (wx_then (wSR ?_))
 iterate 2 refine wP rfl rfl ?_
 refine wP (v := .pointer (some ⟨p0b, 2, none⟩)) rfl rfl (wl_val (v := agS p0.sure p0a0 p0n0 p0c0) (val_load tt_ok rfl (mT mH) rfl) rfl ?_)
 obtain ⟨v11, x11, h⟩ := bsome h
 refine wl_cs Tryz.call20 rfl rfl rfl (s_sp (k_state_Copy (p0 := p0.sure) p0N0 (vec_cap p0V0) x11) pNil (Rds.call (Rds.of_vec p0V0) pNil ⟨_, (sCC hA')⟩)) rfl ?_
 rintro _ _ ⟨_, ⟨v11a0, v11n0, v11c0, v11B0, v11N0, v11V0, rfl, rfl⟩, rfl⟩
 apply wl_store tt_ok; rfl; exact (Upd.right Upd.here); rfl; rfl; rfl; rfl; rfl; rfl
 refine wNT (wc_ret ?_)
 obtain rfl := sI h
 exact wx_spD tt_ok (.inl rfl) Tryz.results46 (Res.cell rfl (mR mH) rfl Res.nil) ⟨v11a0, v11n0, v11c0, v11B0, v11N0, v11V0, rfl, rfl⟩ (fun F => by simp) (pSub (pCons (sAC hC) (pApp (sAC hA') (pApp (sAC hA') (pCons (sAC hC) (pApp (sAC hA') (pCons (sAC hC) (pApp (sAC hA') (pA pNil)))))))))

theorem k_hindcastref08_Same {F : Nat} {p0 : T_api_State} {p0a0 : Option Addr} {p0n0 p0c0 : Nat} {p1 : T_api_State} {p1a0 : Option Addr} {p1n0 p1c0 : Nat} {r0 : Bool} (p0N0 : p0n0 = p0.Shots.length) (p0H0 : p0n0 ≤ p0c0) (p1N0 : p1n0 = p1.Shots.length) (p1H0 : p1n0 ≤ p1c0) (h : m_hindcastref08_Same F p0 p1 = some r0) :
    Pf Tryz.prog 45 [agS p0 p0a0 p0n0 p0c0, agS p1 p1a0 p1n0 p1c0] (fun w => Rds w [] [] p0a0 (flat c_T_api_Shot p0.Shots) ∧ Rds w [] [] p1a0 (flat c_T_api_Shot p1.Shots)) (.bool r0) := by
 unfold m_hindcastref08_Same at h
 refine pf_of_wc Tryz.func45 rfl Tryz.ntmps45 rfl rfl (fun w0 hR => ?_)
 obtain ⟨p0S0, p1S0⟩ := hR
 refine wSR (wl_box rfl rfl rfl (fun b2 => (wl_box rfl rfl rfl (fun b3 => (wP rfl rfl (wNT (wc_seq (wSR (wP (v := .pointer (some ⟨b2, 0, none⟩)) rfl rfl (wl_val (v := .int .u64 p0.Frame) (val_load tt_ok rfl (mT mH) rfl) rfl (wP (v := .pointer (some ⟨b3, 0, none⟩)) rfl rfl (wl_val (v := .int .u64 p1.Frame) (val_load tt_ok rfl mH rfl) rfl (wP (v := .bool (p0.Frame != p1.Frame)) rfl rfl (wP rfl rfl ?_))))))))))))))
 obtain ⟨v17, h, hg17⟩ := bsome h
 refine wl_split (t := 11) rfl (fun hc => ?_) (fun hc => ?_)
 ·replace h := ct hc h
  iterate 5 refine wl_skip rfl rfl ?_
  obtain rfl := sI h
  have h := hg17; clear hg17
  refine wP (v := .bool true) rfl rfl (wP rfl rfl ?_)
  obtain ⟨v26, h, hg26⟩ := bsome h
  replace h := ct rfl h
  iterate 7 refine wl_skip rfl rfl ?_
  obtain rfl := sI h
  have h := hg26; clear hg26
  refine wP (v := .bool true) rfl rfl (wP rfl rfl ?_)
  obtain ⟨v35, h, hg35⟩ := bsome h
  replace h := ct rfl h
  iterate 7 refine wl_skip rfl rfl ?_
  obtain rfl := sI h
  have h := hg35; clear hg35
  refine wP (v := .bool true) rfl rfl (wP rfl rfl ?_)
  obtain ⟨v42, h, hg42⟩ := bsome h
  replace h := ct rfl h
  iterate 5 refine wl_skip rfl rfl ?_
  obtain rfl := sI h
  have h := hg42; clear hg42
  refine wP (v := .bool true) rfl rfl (wP rfl rfl ?_)
  obtain ⟨v51, h, hg51⟩ := bsome h
  replace h := ct rfl h
  iterate 7 refine wl_skip rfl rfl ?_
  obtain rfl := sI h
  have h := hg51; clear hg51
  refine wP (v := .bool true) rfl rfl (wNT ?_)
  replace h := ct rfl h
  refine wc_cond_true rfl ?_
  refine wSR (wP rfl rfl (wNT (wc_ret (wx_then_ret ?_))))
  obtain rfl := sI h
  exact wx_pf tt_ok (.inl rfl) Tryz.results45 (Res.tmp rfl Res.nil) rfl
 replace h := cf hc h
 refine wl_run rfl (wP (v := .pointer (some ⟨b2, 1, none⟩)) rfl rfl (wl_run rfl (wl_val (v := .int .u64 p0.Seed) (val_load tt_ok rfl (mT mH) rfl) rfl (wl_run rfl (wP (v := .pointer (some ⟨b3, 1, none⟩)) rfl rfl (wl_run rfl (wl_val (v := .int .u64 p1.Seed) (val_load tt_ok rfl mH rfl) rfl (wl_run rfl (wP (v := .bool (p0.Seed != p1.Seed)) rfl rfl ?_)))))))))
 obtain rfl := sI h
 have h := hg17; clear hg17
 refine wP (v := .bool (p0.Seed != p1.Seed)) rfl rfl (wP rfl rfl ?_)
 obtain ⟨v26, h, hg26⟩ := bsome h
 refine wl_split (t := 18) rfl (fun hc => ?_) (fun hc => ?_)
 ·replace h := ct hc h
  iterate 7 refine wl_skip rfl rfl ?_
  obtain rfl := sI h
  have h := hg26; clear hg26
  refine wP (v := .bool true) rfl rfl (wP rfl rfl ?_)
  obtain ⟨v35, h, hg35⟩ := bsome h
  replace h := ct rfl h
  iterate 7 refine wl_skip rfl rfl ?_
  obtain rfl := sI h
  have h := hg35; clear hg35
  refine wP (v := .bool true) rfl rfl (wP rfl rfl ?_)
  obtain ⟨v42, h, hg42⟩ := bsome h
  replace h := ct rfl h
  iterate 5 refine wl_skip rfl rfl ?_
  obtain rfl := sI h
  have h := hg42; clear hg42
  refine wP (v := .bool true) rfl rfl (wP rfl rfl ?_)
  obtain ⟨v51, h, hg51⟩ := bsome h
  replace h := ct rfl h
  iterate 7 refine wl_skip rfl rfl ?_
  obtain rfl := sI h
  have h := hg51; clear hg51
  refine wP (v := .bool true) rfl rfl (wNT ?_)
  replace h := ct rfl h
  refine wc_cond_true rfl ?_
  refine wSR (wP rfl rfl (wNT (wc_ret (wx_then_ret ?_))))
  obtain rfl := sI h
  exact wx_pf tt_ok (.inl rfl) Tryz.results45 (Res.tmp rfl Res.nil) rfl
 replace h := cf hc h
 refine wl_run rfl (wP (v := .pointer (some ⟨b2, 2, none⟩)) rfl rfl (wl_run rfl (wl_val (v := .pointer (some ⟨b2, 2, none⟩)) (val_ia (j := 0) tt_ok rfl rfl rfl rfl rfl rfl rfl) rfl (wl_run rfl (wl_val (v := agP p0.Players.1) (val_load tt_ok rfl (mT mH) rfl) rfl (wl_run rfl (wP (v := .pointer (some ⟨b3, 2, none⟩)) rfl rfl (wl_run rfl (wl_val (v := .pointer (some ⟨b3, 2, none⟩)) (val_ia (j := 0) tt_ok rfl rfl rfl rfl rfl rfl rfl) rfl (wl_run rfl (wl_val (v := agP p1.Players.1) (val_load tt_ok rfl mH rfl) rfl ?_)))))))))))
 refine wl_run rfl (wl_val (v := .bool (!((p0.Players.1.X == p1.Players.1.X) && ((p0.Players.1.Y == p1.Players.1.Y) && ((p0.Players.1.VX == p1.Players.1.VX) && ((p0.Players.1.VY == p1.Players.1.VY) && ((p0.Players.1.Health == p1.Players.1.Health) && ((p0.Players.1.Cool == p1.Players.1.Cool) && (p0.Players.1.Face == p1.Players.1.Face))))))))) (val_nes tt_ok tt_eq tt_one Tryz.eqGuardType24 rfl rfl rfl rfl rfl) rfl ?_)
 obtain rfl := sI h
 have h := hg26; clear hg26
 refine wP (v := .bool (!((p0.Players.1.X == p1.Players.1.X) && ((p0.Players.1.Y == p1.Players.1.Y) && ((p0.Players.1.VX == p1.Players.1.VX) && ((p0.Players.1.VY == p1.Players.1.VY) && ((p0.Players.1.Health == p1.Players.1.Health) && ((p0.Players.1.Cool == p1.Players.1.Cool) && (p0.Players.1.Face == p1.Players.1.Face))))))))) rfl rfl (wP rfl rfl ?_)
 obtain ⟨v35, h, hg35⟩ := bsome h
 refine wl_split (t := 27) rfl (fun hc => ?_) (fun hc => ?_)
 ·replace h := ct hc h
  iterate 7 refine wl_skip rfl rfl ?_
  obtain rfl := sI h
  have h := hg35; clear hg35
  refine wP (v := .bool true) rfl rfl (wP rfl rfl ?_)
  obtain ⟨v42, h, hg42⟩ := bsome h
  replace h := ct rfl h
  iterate 5 refine wl_skip rfl rfl ?_
  obtain rfl := sI h
  have h := hg42; clear hg42
  refine wP (v := .bool true) rfl rfl (wP rfl rfl ?_)
  obtain ⟨v51, h, hg51⟩ := bsome h
  replace h := ct rfl h
  iterate 7 refine wl_skip rfl rfl ?_
  obtain rfl := sI h
  have h := hg51; clear hg51
  refine wP (v := .bool true) rfl rfl (wNT ?_)
  replace h := ct rfl h
  refine wc_cond_true rfl ?_
  refine wSR (wP rfl rfl (wNT (wc_ret (wx_then_ret ?_))))
  obtain rfl := sI h
  exact wx_pf tt_ok (.inl rfl) Tryz.results45 (Res.tmp rfl Res.nil) rfl
 replace h := cf hc h
 refine wl_run rfl (wP (v := .pointer (some ⟨b2, 2, none⟩)) rfl rfl (wl_run rfl (wl_val (v := .pointer (some ⟨b2, 9, none⟩)) (val_ia (j := 1) tt_ok rfl rfl rfl rfl rfl rfl rfl) rfl (wl_run rfl (wl_val (v := agP p0.Players.2) (val_load tt_ok rfl (mT mH) rfl) rfl (wl_run rfl (wP (v := .pointer (some ⟨b3, 2, none⟩)) rfl rfl (wl_run rfl (wl_val (v := .pointer (some ⟨b3, 9, none⟩)) (val_ia (j := 1) tt_ok rfl rfl rfl rfl rfl rfl rfl) rfl (wl_run rfl (wl_val (v := agP p1.Players.2) (val_load tt_ok rfl mH rfl) rfl ?_)))))))))))
 refine wl_run rfl (wl_val (v := .bool (!((p0.Players.2.X == p1.Players.2.X) && ((p0.Players.2.Y == p1.Players.2.Y) && ((p0.Players.2.VX == p1.Players.2.VX) && ((p0.Players.2.VY == p1.Players.2.VY) && ((p0.Players.2.Health == p1.Players.2.Health) && ((p0.Players.2.Cool == p1.Players.2.Cool) && (p0.Players.2.Face == p1.Players.2.Face))))))))) (val_nes tt_ok tt_eq tt_one Tryz.eqGuardType24 rfl rfl rfl rfl rfl) rfl ?_)
 obtain rfl := sI h
 have h := hg35; clear hg35
 refine wP (v := .bool (!((p0.Players.2.X == p1.Players.2.X) && ((p0.Players.2.Y == p1.Players.2.Y) && ((p0.Players.2.VX == p1.Players.2.VX) && ((p0.Players.2.VY == p1.Players.2.VY) && ((p0.Players.2.Health == p1.Players.2.Health) && ((p0.Players.2.Cool == p1.Players.2.Cool) && (p0.Players.2.Face == p1.Players.2.Face))))))))) rfl rfl (wP rfl rfl ?_)
 obtain ⟨v42, h, hg42⟩ := bsome h
 refine wl_split (t := 36) rfl (fun hc => ?_) (fun hc => ?_)
 ·replace h := ct hc h
  iterate 5 refine wl_skip rfl rfl ?_
  obtain rfl := sI h
  have h := hg42; clear hg42
  refine wP (v := .bool true) rfl rfl (wP rfl rfl ?_)
  obtain ⟨v51, h, hg51⟩ := bsome h
  replace h := ct rfl h
  iterate 7 refine wl_skip rfl rfl ?_
  obtain rfl := sI h
  have h := hg51; clear hg51
  refine wP (v := .bool true) rfl rfl (wNT ?_)
  replace h := ct rfl h
  refine wc_cond_true rfl ?_
  refine wSR (wP rfl rfl (wNT (wc_ret (wx_then_ret ?_))))
  obtain rfl := sI h
  exact wx_pf tt_ok (.inl rfl) Tryz.results45 (Res.tmp rfl Res.nil) rfl
 replace h := cf hc h
 refine wl_run rfl (wP (v := .pointer (some ⟨b2, 17, none⟩)) rfl rfl (wl_run rfl (wl_val (v := .agg #[.int .u16 p0.Score.1, .int .u16 p0.Score.2]) (val_load tt_ok rfl (mT mH) rfl) rfl (wl_run rfl (wP (v := .pointer (some ⟨b3, 17, none⟩)) rfl rfl (wl_run rfl (wl_val (v := .agg #[.int .u16 p1.Score.1, .int .u16 p1.Score.2]) (val_load tt_ok rfl mH rfl) rfl (wl_run rfl (wl_val (v := .bool (!((p0.Score.1 == p1.Score.1) && (p0.Score.2 == p1.Score.2)))) (val_nes tt_ok tt_eq tt_one Tryz.eqGuardType28 rfl rfl rfl rfl rfl) rfl ?_)))))))))
 obtain rfl := sI h
 have h := hg42; clear hg42
 refine wP (v := .bool (!((p0.Score.1 == p1.Score.1) && (p0.Score.2 == p1.Score.2)))) rfl rfl (wP rfl rfl ?_)
 obtain ⟨v51, h, hg51⟩ := bsome h
 refine wl_split (t := 43) rfl (fun hc => ?_) (fun hc => ?_)
 ·replace h := ct hc h
  iterate 7 refine wl_skip rfl rfl ?_
  obtain rfl := sI h
  have h := hg51; clear hg51
  refine wP (v := .bool true) rfl rfl (wNT ?_)
  replace h := ct rfl h
  refine wc_cond_true rfl ?_
  refine wSR (wP rfl rfl (wNT (wc_ret (wx_then_ret ?_))))
  obtain rfl := sI h
  exact wx_pf tt_ok (.inl rfl) Tryz.results45 (Res.tmp rfl Res.nil) rfl
 replace h := cf hc h
 refine wl_run rfl (wP (v := .pointer (some ⟨b2, 16, none⟩)) rfl rfl (wl_run rfl (wl_val (v := .slice p0a0 p0n0 p0c0) (val_load tt_ok rfl (mT mH) rfl) rfl (wl_run rfl (wl_val (v := .int .i64 (p0.Shots.length : Int)) (val_len tt_ok rfl rfl p0N0) rfl (wl_run rfl (wP (v := .pointer (some ⟨b3, 16, none⟩)) rfl rfl (wl_run rfl (wl_val (v := .slice p1a0 p1n0 p1c0) (val_load tt_ok rfl mH rfl) rfl (wl_run rfl (wl_val (v := .int .i64 (p1.Shots.length : Int)) (val_len tt_ok rfl rfl p1N0) rfl (wl_run rfl (wP (v := .bool ((p0.Shots.length : Int) != (p1.Shots.length : Int))) rfl rfl ?_)))))))))))))
 obtain rfl := sI h
 have h := hg51; clear hg51
 refine wP (v := .bool ((p0.Shots.length : Int) != (p1.Shots.length : Int))) rfl rfl (wNT (wc_cond rfl (fun hc => ?_) (fun hc => ?_)))
 ·replace h := ct hc h
  refine wSR (wP rfl rfl (wNT (wc_ret (wx_then_ret ?_))))
  obtain rfl := sI h
  exact wx_pf tt_ok (.inl rfl) Tryz.results45 (Res.tmp rfl Res.nil) rfl
 replace h := cf hc h
 refine wc_skip (wx_then (wc_seq (wSR (wP rfl rfl (wNT (wc_block ?_))))))
 obtain ⟨o15, h, hl15⟩ := bsome h
 refine wc_loop (fun m E L => ∃ (za : Int), m_hindcastref08_Same_L14 F p0 p1 m za = some o15 ∧ E = [(2, .pointer (some ⟨b2, 0, none⟩)), (3, .pointer (some ⟨b3, 0, none⟩)), (4, .bool false), (5, .int .i64 za)] ∧ L = (⟨b2, (st19 p0 p0a0 p0n0 p0c0 []), 30, (0, 0)⟩ :: (⟨b3, (st19 p1 p1a0 p1n0 p1c0 []), 30, (0, 0)⟩ :: []))) F ⟨(0 : Int), h, rfl, rfl⟩ (agree_cons rfl (agree_cons rfl (agree_cons rfl (agree_cons rfl agree_nil)))) (pSub (pS (pH pNil))) ?_
 clear h
 rintro m15 _ _ ⟨za, h, rfl, rfl⟩
 rcases m15 with _ | m15
 ·rw [m_hindcastref08_Same_L14.eq_1] at h; cases h
 rw [m_hindcastref08_Same_L14.eq_2] at h
 refine wc_seq (wSR (wP rfl rfl (wP (v := .pointer (some ⟨b2, 16, none⟩)) rfl rfl (wl_val (v := .slice p0a0 p0n0 p0c0) (val_load tt_ok rfl mH rfl) rfl (wl_val (v := .int .i64 (p0.Shots.length : Int)) (val_len tt_ok rfl rfl p0N0) rfl (wP (v := .bool (decide (za < (p0.Shots.length : Int)))) rfl rfl (wNT (wc_cond rfl (fun hc => ?_) (fun hc => ?_)))))))))
 ·replace h := ct hc h
  refine wc_skip (wx_then (wc_seq (wc_block (wc_seq (wc_quiet (by kernel_rfl) (by kernel_rfl) (qP (v := .pointer (some ⟨b2, 16, none⟩)) rfl rfl (wq_val (v := .slice p0a0 p0n0 p0c0) (val_load tt_ok rfl mH rfl) rfl (qP rfl rfl ?_))))))))
  obtain ⟨v62, x62, h⟩ := bsome h
  refine wq_val (v := .pointer (some ((adOf p0a0).add (za.toNat * 6 + 0)))) (val_ix (enc := c_T_api_Shot) tt_ok rfl rfl rfl rfl p0N0 p0S0 c_T_api_Shot_len rfl x62) rfl ?_
  refine wq_val (v := .agg #[.int .i32 v62.X, .int .i32 v62.Y, .int .i32 v62.VX, .int .i32 v62.VY, .int .u8 v62.Owner, .int .u8 v62.Life]) (val_le (enc := c_T_api_Shot) (xs := p0.Shots) tt_ok rfl p0S0 rsub_nil c_T_api_Shot_len x62 rfl) rfl ?_
  refine qP (v := .pointer (some ⟨b3, 16, none⟩)) rfl rfl (wq_val (v := .slice p1a0 p1n0 p1c0) (val_load tt_ok rfl (mT mH) rfl) rfl (qP rfl rfl ?_))
  obtain ⟨v67, x67, h⟩ := bsome h
  refine wq_val (v := .pointer (some ((adOf p1a0).add (za.toNat * 6 + 0)))) (val_ix (enc := c_T_api_Shot) tt_ok rfl rfl rfl rfl p1N0 p1S0 c_T_api_Shot_len rfl x67) rfl ?_
  refine wq_val (v := .agg #[.int .i32 v67.X, .int .i32 v67.Y, .int .i32 v67.VX, .int .i32 v67.VY, .int .u8 v67.Owner, .int .u8 v67.Life]) (val_le (enc := c_T_api_Shot) (xs := p1.Shots) tt_ok rfl p1S0 rsub_nil c_T_api_Shot_len x67 rfl) rfl ?_
  refine wq_val (v := .bool (!((v62.X == v67.X) && ((v62.Y == v67.Y) && ((v62.VX == v67.VX) && ((v62.VY == v67.VY) && ((v62.Owner == v67.Owner) && (v62.Life == v67.Life)))))))) (val_nes tt_ok tt_eq tt_one Tryz.eqGuardType93 rfl rfl rfl rfl rfl) rfl ?_
  refine wq_nil (wx_then (wc_cond rfl (fun hc => ?_) (fun hc => ?_)))
  ·replace h := ct hc h
   refine wSR (wP rfl rfl (wNT (wc_ret (wx_block_ret (wx_then_ret ?_)))))
   obtain rfl := Option.some.inj h
   have h := hl15; clear hl15; try dsimp only [orE_l, orE_r] at h
   refine wx_then_ret (wx_block_ret (wx_then_ret ?_))
   obtain rfl := sI h
   exact wx_pf tt_ok (.inl rfl) Tryz.results45 (Res.tmp rfl Res.nil) rfl
  replace h := cf hc h
  refine wc_skip (wx_block (wx_then (wc_region (wP rfl rfl (wP (v := .int .i64 (IntKind.wrap .i64 (za + (1 : Int)))) rfl rfl (wP rfl rfl (wl_nil ?_)))))))
  exact wx_round m15 (Nat.lt_succ_self m15) ⟨(IntKind.wrap .i64 (za + (1 : Int))), h, rfl, rfl⟩ (agree_cons rfl (agree_cons rfl (agree_cons rfl (agree_cons rfl agree_nil)))) (pSub (pHH pNil))
 replace h := cf hc h
 refine wc_exit (wx_then_exit ?_)
 obtain rfl := Option.some.inj h
 have h := hl15; clear hl15; try dsimp only [orE_l, orE_r] at h
 refine wx_then_exit (wx_block_exit (wx_then (wSR ?_)))
 refine wP rfl rfl (wNT (wc_ret ?_))
 obtain rfl := sI h
 exact wx_pf tt_ok (.inl rfl) Tryz.results45 (Res.tmp rfl Res.nil) rfl

theorem k_hindcastref06_Legal {F : Nat} {p0 : Int} {r0 : Bool} (h : m_hindcastref06_Legal F p0 = some r0) :
    Pf Tryz.prog 74 [.int .u8 p0] (fun w => True) (.bool r0) := by
 unfold m_hindcastref06_Legal at h
 refine pf_of_wc Tryz.func74 rfl Tryz.ntmps74 rfl rfl (fun w0 hR => ?_)
 refine wSR (wP rfl rfl (wNT (wSR (wP rfl rfl (wP (v := .bool (decide (p0 < (64 : Int)))) rfl rfl (wP rfl rfl (wNT (wc_ret ?_))))))))
 obtain rfl := sI h
 exact wx_pf tt_ok (.inl rfl) Tryz.results74 (Res.tmp rfl Res.nil) rfl

theorem k_hindcastref06_bit {F : Nat} {p0 : Int} {p1 : Int} {r0 : Bool} (h : m_hindcastref06_bit F p0 p1 = some r0) :
    Pf Tryz.prog 108 [.int .u8 p0, .int .i64 p1] (fun w => True) (.bool r0) := by
 unfold m_hindcastref06_bit at h
 refine pf_of_wc Tryz.func108 rfl Tryz.ntmps108 rfl rfl (fun w0 hR => ?_)
 refine wSR (wP rfl rfl (wNT (wSR (wP rfl rfl (wP (v := .int .i64 (IntKind.wrap .i64 p0)) rfl rfl (wP rfl rfl ?_))))))
 obtain ⟨v8, x8, h⟩ := bsome h
 refine wl_val (v := .int .i64 v8) (val_shr rfl rfl x8) rfl ?_
 refine wP (v := .int .i64 (Int.tmod v8 2)) rfl rfl (wP (v := .bool ((Int.tmod v8 2) == (1 : Int))) rfl rfl (wP rfl rfl (wNT (wc_ret ?_))))
 obtain rfl := sI h
 exact wx_pf tt_ok (.inl rfl) Tryz.results108 (Res.tmp rfl Res.nil) rfl

theorem k_hindcastref06_against {F : Nat} {p0 : Bool} {p1 : Bool} {r0 : Int} (h : m_hindcastref06_against F p0 p1 = some r0) :
    Pf Tryz.prog 107 [.bool p0, .bool p1] (fun w => True) (.int .i32 r0) := by
 unfold m_hindcastref06_against at h
 refine pf_of_wc Tryz.func107 rfl Tryz.ntmps107 rfl rfl (fun w0 hR => ?_)
 refine wSR (wP rfl rfl (wNT (wc_seq (wSR ?_))))
 iterate 2 refine wP rfl rfl ?_
 obtain ⟨v9, h, hg9⟩ := bsome h
 refine wl_split (t := 6) rfl (fun hc => ?_) (fun hc => ?_)
 ·replace h := ct hc h
  refine wl_run rfl (wP rfl rfl (wl_run rfl (wP (v := .bool (!p1)) rfl rfl ?_)))
  obtain rfl := sI h
  have h := hg9; clear hg9
  refine wP (v := .bool (!p1)) rfl rfl (wNT (wc_cond rfl (fun hc => ?_) (fun hc => ?_)))
  ·replace h := ct hc h
   refine wSR (wP rfl rfl (wNT (wc_ret (wx_then_ret ?_))))
   obtain rfl := sI h
   exact wx_pf tt_ok (.inl rfl) Tryz.results107 (Res.tmp rfl Res.nil) rfl
  replace h := cf hc h
  refine wc_skip (wx_then (wc_seq (wSR ?_)))
  iterate 2 refine wP rfl rfl ?_
  obtain ⟨v14, h, hg14⟩ := bsome h
  refine wl_split (t := 11) rfl (fun hc => ?_) (fun hc => ?_)
  ·replace h := ct hc h
   refine wl_run rfl (wP rfl rfl (wl_run rfl (wP (v := .bool (!p0)) rfl rfl ?_)))
   obtain rfl := sI h
   have h := hg14; clear hg14
   refine wP (v := .bool (!p0)) rfl rfl (wNT (wc_cond rfl (fun hc => ?_) (fun hc => ?_)))
   ·replace h := ct hc h
    refine wSR (wP rfl rfl (wNT (wc_ret (wx_then_ret ?_))))
    obtain rfl := sI h
    exact wx_pf tt_ok (.inl rfl) Tryz.results107 (Res.tmp rfl Res.nil) rfl
   replace h := cf hc h
   refine wc_skip (wx_then (wSR (wP rfl rfl (wNT (wc_ret ?_)))))
   obtain rfl := sI h
   exact wx_pf tt_ok (.inl rfl) Tryz.results107 (Res.tmp rfl Res.nil) rfl
  replace h := cf hc h
  iterate 2 refine wl_skip rfl rfl ?_
  obtain rfl := sI h
  have h := hg14; clear hg14
  refine wP (v := .bool false) rfl rfl (wNT ?_)
  replace h := cf rfl h
  refine wc_cond_false rfl ?_
  refine wc_skip (wx_then (wSR (wP rfl rfl (wNT (wc_ret ?_)))))
  obtain rfl := sI h
  exact wx_pf tt_ok (.inl rfl) Tryz.results107 (Res.tmp rfl Res.nil) rfl
 replace h := cf hc h
 iterate 2 refine wl_skip rfl rfl ?_
 obtain rfl := sI h
 have h := hg9; clear hg9
 refine wP (v := .bool false) rfl rfl (wNT ?_)
 replace h := cf rfl h
 refine wc_cond_false rfl ?_
 refine wc_skip (wx_then (wc_seq (wSR ?_)))
 iterate 2 refine wP rfl rfl ?_
 obtain ⟨v14, h, hg14⟩ := bsome h
 refine wl_split (t := 11) rfl (fun hc => ?_) (fun hc => ?_)
 ·replace h := ct hc h
  refine wl_run rfl (wP rfl rfl (wl_run rfl (wP (v := .bool (!p0)) rfl rfl ?_)))
  obtain rfl := sI h
  have h := hg14; clear hg14
  refine wP (v := .bool (!p0)) rfl rfl (wNT (wc_cond rfl (fun hc => ?_) (fun hc => ?_)))
  ·replace h := ct hc h
   refine wSR (wP rfl rfl (wNT (wc_ret (wx_then_ret ?_))))
   obtain rfl := sI h
   exact wx_pf tt_ok (.inl rfl) Tryz.results107 (Res.tmp rfl Res.nil) rfl
  replace h := cf hc h
  refine wc_skip (wx_then (wSR (wP rfl rfl (wNT (wc_ret ?_)))))
  obtain rfl := sI h
  exact wx_pf tt_ok (.inl rfl) Tryz.results107 (Res.tmp rfl Res.nil) rfl
 replace h := cf hc h
 iterate 2 refine wl_skip rfl rfl ?_
 obtain rfl := sI h
 have h := hg14; clear hg14
 refine wP (v := .bool false) rfl rfl (wNT ?_)
 replace h := cf rfl h
 refine wc_cond_false rfl ?_
 refine wc_skip (wx_then (wSR (wP rfl rfl (wNT (wc_ret ?_)))))
 obtain rfl := sI h
 exact wx_pf tt_ok (.inl rfl) Tryz.results107 (Res.tmp rfl Res.nil) rfl

theorem k_hindcastref06_Dir {F : Nat} {p0 : Int} {r0 : Int} {r1 : Int} (h : m_hindcastref06_Dir F p0 = some (r0, r1)) :
    Pf Tryz.prog 94 [.int .u8 p0] (fun w => True) (.tuple #[.int .i32 r0, .int .i32 r1]) := by
 unfold m_hindcastref06_Dir at h
 refine pf_of_wc Tryz.func94 rfl Tryz.ntmps94 rfl rfl (fun w0 hR => ?_)
 refine wSR ?_
 iterate 2 refine wP rfl rfl ?_
 refine wNT (wSR (wP rfl rfl ?_))
 obtain ⟨v5, x5, h⟩ := bsome h
 refine wl_cq Tryz.call108 rfl rfl rfl (q_pf (k_hindcastref06_bit x5) (fun _ _ => trivial)) rfl ?_
 refine wP rfl rfl ?_
 obtain ⟨v7, x7, h⟩ := bsome h
 refine wl_cq Tryz.call108 rfl rfl rfl (q_pf (k_hindcastref06_bit x7) (fun _ _ => trivial)) rfl ?_
 obtain ⟨v8, x8, h⟩ := bsome h
 refine wl_cq Tryz.call107 rfl rfl rfl (q_pf (k_hindcastref06_against x8) (fun _ _ => trivial)) rfl ?_
 refine wP rfl rfl ?_
 obtain ⟨v10, x10, h⟩ := bsome h
 refine wl_cq Tryz.call108 rfl rfl rfl (q_pf (k_hindcastref06_bit x10) (fun _ _ => trivial)) rfl ?_
 refine wP rfl rfl ?_
 obtain ⟨v12, x12, h⟩ := bsome h
 refine wl_cq Tryz.call108 rfl rfl rfl (q_pf (k_hindcastref06_bit x12) (fun _ _ => trivial)) rfl ?_
 obtain ⟨v13, x13, h⟩ := bsome h
 refine wl_cq Tryz.call107 rfl rfl rfl (q_pf (k_hindcastref06_against x13) (fun _ _ => trivial)) rfl ?_
 iterate 2 refine wP rfl rfl ?_
 refine wNT (wc_ret ?_)
 obtain ⟨rfl, rfl⟩ := pJ2 h
 exact wx_pf tt_ok (.inl rfl) Tryz.results94 (Res.tmp rfl (Res.tmp rfl Res.nil)) rfl

theorem k_hindcastref06_Dash {F : Nat} {p0 : Int} {r0 : Bool} (h : m_hindcastref06_Dash F p0 = some r0) :
    Pf Tryz.prog 95 [.int .u8 p0] (fun w => True) (.bool r0) := by
 unfold m_hindcastref06_Dash at h
 refine pf_of_wc Tryz.func95 rfl Tryz.ntmps95 rfl rfl (fun w0 hR => ?_)
 refine wSR (wP rfl rfl (wNT (wSR (wP rfl rfl ?_))))
 obtain ⟨v4, x4, h⟩ := bsome h
 refine wl_cq Tryz.call108 rfl rfl rfl (q_pf (k_hindcastref06_bit x4) (fun _ _ => trivial)) rfl ?_
 refine wP rfl rfl (wNT (wc_ret ?_))
 obtain rfl := sI h
 exact wx_pf tt_ok (.inl rfl) Tryz.results95 (Res.tmp rfl Res.nil) rfl

theorem k_hindcastref09_speed {F : Nat} {p0 : Int} {p1 : Int} {p2 : Bool} {r0 : Int} (h : m_hindcastref09_speed F p0 p1 p2 = some r0) :
    Pf Tryz.prog 96 [.int .i32 p0, .int .i32 p1, .bool p2] (fun w => True) (.int .i32 r0) := by
 unfold m_hindcastref09_speed at h
 refine pf_of_wc Tryz.func96 rfl Tryz.ntmps96 rfl rfl (fun w0 hR => ?_)
 refine wSR (wP rfl rfl (wNT (wc_seq (wSR (wP rfl rfl (wP (v := .bool (p1 != (0 : Int))) rfl rfl (wNT ?_)))))))
 obtain ⟨za, h, hj6⟩ := bsome h
 refine wc_join2 (fun E L => E = [(0, .int .i32 za), (1, .int .i32 p1), (2, .bool p2), (6, .int .i32 (0 : Int))] ∧ L = []) ?_ ?_
 ·refine wc_cond rfl (fun hc => ?_) (fun hc => ?_)
  ·replace h := ct hc h
   refine wc_region ?_
   iterate 2 refine wP rfl rfl ?_
   refine wP (v := .int .i32 (IntKind.wrap .i32 ((64 : Int) * p1))) rfl rfl (wP (v := .int .i32 (IntKind.wrap .i32 (p0 + (IntKind.wrap .i32 ((64 : Int) * p1))))) rfl rfl (wP rfl rfl (wl_nil ?_)))
   obtain rfl := sI h
   exact wx_join ⟨rfl, rfl⟩ (agree_cons rfl (agree_cons rfl (agree_cons rfl (agree_cons rfl agree_nil)))) (pSub pNil)
  replace h := cf hc h
  refine wc_skip ?_
  obtain rfl := sI h
  exact wx_join ⟨rfl, rfl⟩ (agree_cons rfl (agree_cons rfl (agree_cons rfl (agree_cons rfl agree_nil)))) (pSub pNil)
 rintro _ _ ⟨rfl, rfl⟩
 have h := hj6; clear hj6
 refine wc_seq (wSR (wP rfl rfl (wP (v := .bool (p1 == (0 : Int))) rfl rfl (wNT ?_))))
 obtain ⟨zc, h, hj12⟩ := bsome h
 refine wc_join2 (fun E L => E = [(0, .int .i32 zc), (2, .bool p2), (6, .int .i32 (0 : Int))] ∧ L = []) ?_ ?_
 ·refine wc_cond rfl (fun hc => ?_) (fun hc => ?_)
  ·replace h := ct hc h
   refine wSR ?_
   iterate 2 refine wP rfl rfl ?_
   refine wP (v := .int .i32 (IntKind.wrap .i32 (Int.tdiv za 8))) rfl rfl (wP (v := .int .i32 (IntKind.wrap .i32 (za - (IntKind.wrap .i32 (Int.tdiv za 8))))) rfl rfl (wP rfl rfl (wNT (wSR (wP rfl rfl (wP (v := .bool (decide ((-8 : Int) < (IntKind.wrap .i32 (za - (IntKind.wrap .i32 (Int.tdiv za 8))))))) rfl rfl (wP rfl rfl ?_)))))))
   obtain ⟨v24, h, hg24⟩ := bsome h
   refine wl_split (t := 21) rfl (fun hc => ?_) (fun hc => ?_)
   ·replace h := ct hc h
    refine wl_run rfl (wP rfl rfl (wl_run rfl (wP (v := .bool (decide ((IntKind.wrap .i32 (za - (IntKind.wrap .i32 (Int.tdiv za 8)))) < (8 : Int)))) rfl rfl ?_)))
    obtain rfl := sI h
    have h := hg24; clear hg24
    refine wP (v := .bool (decide ((IntKind.wrap .i32 (za - (IntKind.wrap .i32 (Int.tdiv za 8)))) < (8 : Int)))) rfl rfl (wNT (wc_cond rfl (fun hc => ?_) (fun hc => ?_)))
    ·replace h := ct hc h
     refine wc_region (wP rfl rfl (wl_nil ?_))
     obtain rfl := sI h
     exact wx_join ⟨rfl, rfl⟩ (agree_cons rfl (agree_cons rfl (agree_cons rfl agree_nil))) (pSub pNil)
    replace h := cf hc h
    refine wc_skip ?_
    obtain rfl := sI h
    exact wx_join ⟨rfl, rfl⟩ (agree_cons rfl (agree_cons rfl (agree_cons rfl agree_nil))) (pSub pNil)
   replace h := cf hc h
   iterate 2 refine wl_skip rfl rfl ?_
   obtain rfl := sI h
   have h := hg24; clear hg24
   refine wP (v := .bool false) rfl rfl (wNT ?_)
   replace h := cf rfl h
   refine wc_cond_false rfl ?_
   refine wc_skip ?_
   obtain rfl := sI h
   exact wx_join ⟨rfl, rfl⟩ (agree_cons rfl (agree_cons rfl (agree_cons rfl agree_nil))) (pSub pNil)
  replace h := cf hc h
  refine wc_skip ?_
  obtain rfl := sI h
  exact wx_join ⟨rfl, rfl⟩ (agree_cons rfl (agree_cons rfl (agree_cons rfl agree_nil))) (pSub pNil)
 rintro _ _ ⟨rfl, rfl⟩
 have h := hj12; clear hj12
 refine wc_seq (wSR (wP rfl rfl (wNT ?_)))
 obtain ⟨zb, h, hj24⟩ := bsome h
 refine wc_join2 (fun E L => E = [(0, .int .i32 zb), (6, .int .i32 (0 : Int))] ∧ L = []) ?_ ?_
 ·refine wc_cond rfl (fun hc => ?_) (fun hc => ?_)
  ·replace h := ct hc h
   refine wc_region (wP rfl rfl (wP (v := .int .i32 (IntKind.wrap .i32 (zc * (2 : Int)))) rfl rfl (wP rfl rfl (wl_nil ?_))))
   obtain rfl := sI h
   exact wx_join ⟨rfl, rfl⟩ (agree_cons rfl (agree_cons rfl agree_nil)) (pSub pNil)
  replace h := cf hc h
  refine wc_skip ?_
  obtain rfl := sI h
  exact wx_join ⟨rfl, rfl⟩ (agree_cons rfl (agree_cons rfl agree_nil)) (pSub pNil)
 rintro _ _ ⟨rfl, rfl⟩
 have h := hj24; clear hj24
 refine wc_seq (wSR (wP rfl rfl (wP (v := .bool (decide ((1024 : Int) < zb))) rfl rfl (wNT (wc_cond rfl (fun hc => ?_) (fun hc => ?_))))))
 ·replace h := ct hc h
  refine wSR (wP rfl rfl (wNT (wc_ret (wx_then_ret ?_))))
  obtain rfl := sI h
  exact wx_pf tt_ok (.inl rfl) Tryz.results96 (Res.tmp rfl Res.nil) rfl
 replace h := cf hc h
 refine wc_skip (wx_then (wc_seq (wSR (wP rfl rfl (wP (v := .bool (decide (zb < (-1024 : Int)))) rfl rfl (wNT (wc_cond rfl (fun hc => ?_) (fun hc => ?_))))))))
 ·replace h := ct hc h
  refine wSR (wP rfl rfl (wNT (wc_ret (wx_then_ret ?_))))
  obtain rfl := sI h
  exact wx_pf tt_ok (.inl rfl) Tryz.results96 (Res.tmp rfl Res.nil) rfl
 replace h := cf hc h
 refine wc_skip (wx_then (wSR ?_))
 iterate 2 refine wP rfl rfl ?_
 refine wNT (wc_ret ?_)
 obtain rfl := sI h
 exact wx_pf tt_ok (.inl rfl) Tryz.results96 (Res.tmp rfl Res.nil) rfl

theorem k_hindcastref09_one {F : Nat} {p0 : T_api_Player} {p1 : Int} {r0 : T_api_Player} (h : m_hindcastref09_one F p0 p1 = some r0) :
    Pf Tryz.prog 75 [agP p0, .int .u8 p1] (fun w => True) (agP r0) := by
 unfold m_hindcastref09_one at h
 refine pf_of_wc Tryz.func75 rfl Tryz.ntmps75 rfl rfl (fun w0 hR => ?_)
 refine wSR (wl_box rfl rfl rfl (fun b2 => (wl_alloc tt_ok rfl rfl (fun b4 => (wNT (wSR (wP rfl rfl ?_)))))))
 replace h := bsome h; obtain ⟨⟨zc, zd⟩, x10, h⟩ := h; try dsimp only at h
 refine wl_cq Tryz.call94 rfl rfl rfl (q_pf (k_hindcastref06_Dir x10) (fun _ _ => trivial)) rfl ?_
 iterate 5 refine wP rfl rfl ?_
 refine wNT (wc_seq (wSR (wP (v := .pointer (some ⟨b2, 5, none⟩)) rfl rfl (wl_val (v := .int .u8 p0.Cool) (val_load tt_ok rfl (mT mH) rfl) rfl (wP (v := .bool (decide ((0 : Int) < p0.Cool))) rfl rfl (wNT ?_))))))
 obtain ⟨ze, h, hj8⟩ := bsome h
 refine wc_join2 (fun E L => E = [(1, .int .u8 p1), (2, .pointer (some ⟨b2, 0, none⟩)), (4, .pointer (some ⟨b4, 0, none⟩)), (5, .int .i32 zc), (6, .int .i32 zd)] ∧ L = (⟨b2, (pl7 ze []), 24, (0, 0)⟩ :: (⟨b4, [.int .i32 (0 : Int), .int .i32 (0 : Int), .int .i32 (0 : Int), .int .i32 (0 : Int), .int .u8 (0 : Int), .int .u8 (0 : Int), .int .u8 (0 : Int)], 24, (0, 0)⟩ :: []))) ?_ ?_
 ·refine wc_cond rfl (fun hc => ?_) (fun hc => ?_)
  ·replace h := ct hc h
   refine wc_region (wP (v := .pointer (some ⟨b2, 5, none⟩)) rfl rfl (wl_val (v := .int .u8 p0.Cool) (val_load tt_ok rfl (mT mH) rfl) rfl (wP (v := .int .u8 (IntKind.wrap .u8 (p0.Cool - (1 : Int)))) rfl rfl (wP (v := .pointer (some ⟨b2, 5, none⟩)) rfl rfl ?_))))
   apply wl_store tt_ok; rfl; exact (Upd.there Upd.here); rfl; rfl; rfl; rfl; rfl; rfl
   refine wl_nil ?_
   obtain rfl := sI h
   exact wx_join ⟨rfl, rfl⟩ (agree_cons rfl (agree_cons rfl (agree_cons rfl (agree_cons rfl (agree_cons rfl agree_nil))))) (pSub (pS (pH pNil)))
  replace h := cf hc h
  refine wc_skip ?_
  obtain rfl := sI h
  exact wx_join ⟨rfl, rfl⟩ (agree_cons rfl (agree_cons rfl (agree_cons rfl (agree_cons rfl (agree_cons rfl agree_nil))))) (pSub (pS (pH pNil)))
 rintro _ _ ⟨rfl, rfl⟩
 have h := hj8; clear hj8
 refine wc_seq (wSR (wP rfl rfl (wP (v := .bool (decide ((0 : Int) < zc))) rfl rfl (wNT ?_))))
 obtain ⟨za, h, hj14⟩ := bsome h
 refine wc_join2 (fun E L => E = [(1, .int .u8 p1), (2, .pointer (some ⟨b2, 0, none⟩)), (4, .pointer (some ⟨b4, 0, none⟩)), (5, .int .i32 zc), (6, .int .i32 zd)] ∧ L = (⟨b2, (pl7 za []), 24, (0, 0)⟩ :: (⟨b4, [.int .i32 (0 : Int), .int .i32 (0 : Int), .int .i32 (0 : Int), .int .i32 (0 : Int), .int .u8 (0 : Int), .int .u8 (0 : Int), .int .u8 (0 : Int)], 24, (0, 0)⟩ :: []))) ?_ ?_
 ·refine wc_cond rfl (fun hc => ?_) (fun hc => ?_)
  ·replace h := ct hc h
   refine wc_region (wP (v := .pointer (some ⟨b2, 6, none⟩)) rfl rfl ?_)
   apply wl_store tt_ok; rfl; exact Upd.here; rfl; rfl; rfl; rfl; rfl; rfl
   refine wl_nil ?_
   obtain rfl := sI h
   exact wx_join ⟨rfl, rfl⟩ (agree_cons rfl (agree_cons rfl (agree_cons rfl (agree_cons rfl (agree_cons rfl agree_nil))))) (pSub (pHH pNil))
  replace h := cf hc h
  refine wSR (wP rfl rfl (wP (v := .bool (decide (zc < (0 : Int)))) rfl rfl (wNT (wc_cond rfl (fun hc => ?_) (fun hc => ?_)))))
  ·replace h := ct hc h
   refine wc_region (wP (v := .pointer (some ⟨b2, 6, none⟩)) rfl rfl ?_)
   apply wl_store tt_ok; rfl; exact Upd.here; rfl; rfl; rfl; rfl; rfl; rfl
   refine wl_nil ?_
   obtain rfl := sI h
   exact wx_join ⟨rfl, rfl⟩ (agree_cons rfl (agree_cons rfl (agree_cons rfl (agree_cons rfl (agree_cons rfl agree_nil))))) (pSub (pHH pNil))
  replace h := cf hc h
  refine wSR (wP rfl rfl (wP (v := .bool (decide (zd < (0 : Int)))) rfl rfl (wNT (wc_cond rfl (fun hc => ?_) (fun hc => ?_)))))
  ·replace h := ct hc h
   refine wc_region (wP (v := .pointer (some ⟨b2, 6, none⟩)) rfl rfl ?_)
   apply wl_store tt_ok; rfl; exact Upd.here; rfl; rfl; rfl; rfl; rfl; rfl
   refine wl_nil ?_
   obtain rfl := sI h
   exact wx_join ⟨rfl, rfl⟩ (agree_cons rfl (agree_cons rfl (agree_cons rfl (agree_cons rfl (agree_cons rfl agree_nil))))) (pSub (pHH pNil))
  replace h := cf hc h
  refine wSR (wP rfl rfl (wP (v := .bool (decide ((0 : Int) < zd))) rfl rfl (wNT (wc_cond rfl (fun hc => ?_) (fun hc => ?_)))))
  ·replace h := ct hc h
   refine wc_region (wP (v := .pointer (some ⟨b2, 6, none⟩)) rfl rfl ?_)
   apply wl_store tt_ok; rfl; exact Upd.here; rfl; rfl; rfl; rfl; rfl; rfl
   refine wl_nil ?_
   obtain rfl := sI h
   exact wx_join ⟨rfl, rfl⟩ (agree_cons rfl (agree_cons rfl (agree_cons rfl (agree_cons rfl (agree_cons rfl agree_nil))))) (pSub (pHH pNil))
  replace h := cf hc h
  refine wc_skip ?_
  obtain rfl := sI h
  exact wx_join ⟨rfl, rfl⟩ (agree_cons rfl (agree_cons rfl (agree_cons rfl (agree_cons rfl (agree_cons rfl agree_nil))))) (pSub (pHH pNil))
 rintro _ _ ⟨rfl, rfl⟩
 have h := hj14; clear hj14
 refine wSR (wP rfl rfl ?_)
 obtain ⟨v33, x33, h⟩ := bsome h
 refine wl_cq Tryz.call95 rfl rfl rfl (q_pf (k_hindcastref06_Dash x33) (fun _ _ => trivial)) rfl ?_
 refine wP rfl rfl ?_
 obtain ⟨v38, h, hg38⟩ := bsome h
 refine wl_split (t := 34) rfl (fun hc => ?_) (fun hc => ?_)
 ·replace h := ct hc h
  refine wl_run rfl (wP (v := .pointer (some ⟨b2, 5, none⟩)) rfl rfl (wl_run rfl (wl_val (v := .int .u8 za.Cool) (val_load tt_ok rfl mH rfl) rfl (wl_run rfl (wP (v := .bool (za.Cool == (0 : Int))) rfl rfl ?_)))))
  obtain rfl := sI h
  have h := hg38; clear hg38
  refine wP (v := .bool (za.Cool == (0 : Int))) rfl rfl (wP rfl rfl (wNT (wSR (wP (v := .pointer (some ⟨b2, 2, none⟩)) rfl rfl (wl_val (v := .int .i32 za.VX) (val_load tt_ok rfl mH rfl) rfl ?_)))))
  iterate 2 refine wP rfl rfl ?_
  obtain ⟨v43, x43, h⟩ := bsome h
  refine wl_cq Tryz.call96 rfl rfl rfl (q_pf (k_hindcastref09_speed x43) (fun _ _ => trivial)) rfl ?_
  refine wP (v := .pointer (some ⟨b2, 2, none⟩)) rfl rfl ?_
  apply wl_store tt_ok; rfl; exact Upd.here; rfl; rfl; rfl; rfl; rfl; rfl
  refine wNT (wSR (wP (v := .pointer (some ⟨b2, 3, none⟩)) rfl rfl (wl_val (v := .int .i32 za.VY) (val_load tt_ok rfl mH rfl) rfl ?_)))
  iterate 2 refine wP rfl rfl ?_
  obtain ⟨v49, x49, h⟩ := bsome h
  refine wl_cq Tryz.call96 rfl rfl rfl (q_pf (k_hindcastref09_speed x49) (fun _ _ => trivial)) rfl ?_
  refine wP (v := .pointer (some ⟨b2, 3, none⟩)) rfl rfl ?_
  apply wl_store tt_ok; rfl; exact Upd.here; rfl; rfl; rfl; rfl; rfl; rfl
  refine wNT (wc_seq (wSR (wP rfl rfl (wNT ?_))))
  obtain ⟨zb, h, hj38⟩ := bsome h
  refine wc_join2 (fun E L => E = [(2, .pointer (some ⟨b2, 0, none⟩)), (4, .pointer (some ⟨b4, 0, none⟩))] ∧ L = (⟨b2, (pl7 zb []), 24, (0, 0)⟩ :: (⟨b4, [.int .i32 (0 : Int), .int .i32 (0 : Int), .int .i32 (0 : Int), .int .i32 (0 : Int), .int .u8 (0 : Int), .int .u8 (0 : Int), .int .u8 (0 : Int)], 24, (0, 0)⟩ :: []))) ?_ ?_
  ·refine wc_cond rfl (fun hc => ?_) (fun hc => ?_)
   ·replace h := ct hc h
    refine wc_region (wP (v := .pointer (some ⟨b2, 5, none⟩)) rfl rfl ?_)
    apply wl_store tt_ok; rfl; exact Upd.here; rfl; rfl; rfl; rfl; rfl; rfl
    refine wl_nil ?_
    obtain rfl := sI h
    exact wx_join ⟨rfl, rfl⟩ (agree_cons rfl (agree_cons rfl agree_nil)) (pSub (pHH pNil))
   replace h := cf hc h
   refine wc_skip ?_
   obtain rfl := sI h
   exact wx_join ⟨rfl, rfl⟩ (agree_cons rfl (agree_cons rfl agree_nil)) (pSub (pHH pNil))
  rintro _ _ ⟨rfl, rfl⟩
  have h := hj38; clear hj38
  refine wSR (wl_val (v := agP zb) (val_load tt_ok rfl mH rfl) rfl ?_)
  apply wl_store tt_ok; rfl; exact (Upd.there Upd.here); rfl; rfl; rfl; rfl; rfl; rfl
  refine wNT (wc_ret ?_)
  obtain rfl := sI h
  exact wx_pf tt_ok (.inl rfl) Tryz.results75 (Res.cell rfl (mT mH) rfl Res.nil) rfl
 replace h := cf hc h
 iterate 3 refine wl_skip rfl rfl ?_
 obtain rfl := sI h
 have h := hg38; clear hg38
 refine wP (v := .bool false) rfl rfl (wP rfl rfl (wNT (wSR (wP (v := .pointer (some ⟨b2, 2, none⟩)) rfl rfl (wl_val (v := .int .i32 za.VX) (val_load tt_ok rfl mH rfl) rfl ?_)))))
 iterate 2 refine wP rfl rfl ?_
 obtain ⟨v43, x43, h⟩ := bsome h
 refine wl_cq Tryz.call96 rfl rfl rfl (q_pf (k_hindcastref09_speed x43) (fun _ _ => trivial)) rfl ?_
 refine wP (v := .pointer (some ⟨b2, 2, none⟩)) rfl rfl ?_
 apply wl_store tt_ok; rfl; exact Upd.here; rfl; rfl; rfl; rfl; rfl; rfl
 refine wNT (wSR (wP (v := .pointer (some ⟨b2, 3, none⟩)) rfl rfl (wl_val (v := .int .i32 za.VY) (val_load tt_ok rfl mH rfl) rfl ?_)))
 iterate 2 refine wP rfl rfl ?_
 obtain ⟨v49, x49, h⟩ := bsome h
 refine wl_cq Tryz.call96 rfl rfl rfl (q_pf (k_hindcastref09_speed x49) (fun _ _ => trivial)) rfl ?_
 refine wP (v := .pointer (some ⟨b2, 3, none⟩)) rfl rfl ?_
 apply wl_store tt_ok; rfl; exact Upd.here; rfl; rfl; rfl; rfl; rfl; rfl
 refine wNT (wc_seq (wSR (wP rfl rfl (wNT ?_))))
 obtain ⟨zb, h, hj38⟩ := bsome h
 refine wc_join2 (fun E L => E = [(2, .pointer (some ⟨b2, 0, none⟩)), (4, .pointer (some ⟨b4, 0, none⟩))] ∧ L = (⟨b2, (pl7 zb []), 24, (0, 0)⟩ :: (⟨b4, [.int .i32 (0 : Int), .int .i32 (0 : Int), .int .i32 (0 : Int), .int .i32 (0 : Int), .int .u8 (0 : Int), .int .u8 (0 : Int), .int .u8 (0 : Int)], 24, (0, 0)⟩ :: []))) ?_ ?_
 ·replace h := cf rfl h
  refine wc_cond_false rfl ?_
  refine wc_skip ?_
  obtain rfl := sI h
  exact wx_join ⟨rfl, rfl⟩ (agree_cons rfl (agree_cons rfl agree_nil)) (pSub (pHH pNil))
 rintro _ _ ⟨rfl, rfl⟩
 have h := hj38; clear hj38
 refine wSR (wl_val (v := agP zb) (val_load tt_ok rfl mH rfl) rfl ?_)
 apply wl_store tt_ok; rfl; exact (Upd.there Upd.here); rfl; rfl; rfl; rfl; rfl; rfl
 refine wNT (wc_ret ?_)
 obtain rfl := sI h
 exact wx_pf tt_ok (.inl rfl) Tryz.results75 (Res.cell rfl (mT mH) rfl Res.nil) rfl

theorem k_hindcastref06_Fire {F : Nat} {p0 : Int} {r0 : Bool} (h : m_hindcastref06_Fire F p0 = some r0) :
    Pf Tryz.prog 97 [.int .u8 p0] (fun w => True) (.bool r0) := by
 unfold m_hindcastref06_Fire at h
 refine pf_of_wc Tryz.func97 rfl Tryz.ntmps97 rfl rfl (fun w0 hR => ?_)
 refine wSR (wP rfl rfl (wNT (wSR (wP rfl rfl ?_))))
 obtain ⟨v4, x4, h⟩ := bsome h
 refine wl_cq Tryz.call108 rfl rfl rfl (q_pf (k_hindcastref06_bit x4) (fun _ _ => trivial)) rfl ?_
 refine wP rfl rfl (wNT (wc_ret ?_))
 obtain rfl := sI h
 exact wx_pf tt_ok (.inl rfl) Tryz.results97 (Res.tmp rfl Res.nil) rfl

theorem k_hindcastref09_two_o0 {F : Nat} {p0 : T_api_State} {p0a0 : Option Addr} {p0n0 p0c0 : Nat} {p0B0 : List Blk} {p1 : (Int × Int)} {r0 : T_api_State} (p0N0 : p0n0 = p0.Shots.length) (p0V0 : Own 93 6 p0a0 p0n0 p0c0 (flat c_T_api_Shot p0.Shots) p0B0) (h : m_hindcastref09_two_o0 F p0 p1 = some r0) :
    SpD Tryz.prog 76 [agS p0 p0a0 p0n0 p0c0, .agg #[.int .u8 p1.1, .int .u8 p1.2]] (p0B0 ++ []) (fun w => True) (fun v D => ∃ (r0a0 : Option Addr) (r0n0 r0c0 : Nat) (r0B0 : List Blk), r0n0 = r0.Shots.length ∧ Own 93 6 r0a0 r0n0 r0c0 (flat c_T_api_Shot r0.Shots) r0B0 ∧ v = agS r0 r0a0 r0n0 r0c0 ∧ D = fun F => (r0B0 ++ F)) := by
 unfold m_hindcastref09_two_o0 at h
 refine sp_of_wc Tryz.func76 rfl Tryz.ntmps76 rfl rfl (fun w0 hR => ?_)
 refine wSR (wl_box rfl rfl rfl (fun b2 => (wl_box rfl rfl rfl (fun b3 => (wl_alloc tt_ok rfl rfl (fun b4 => (wNT (wc_seq (wSR (wP rfl rfl (wNT (wc_block ?_))))))))))))
 replace h := bsome h; obtain ⟨⟨zj, zk⟩, h, hl7⟩ := h; try dsimp only at hl7
 refine wc_loop (fun m E L => ∃ (zf : Int) (zb : (T_api_Player × T_api_Player)) (za : (List T_api_Shot)) (zd : Option Addr) (zc ze : Nat) (zh : List Blk), m_hindcastref09_two_o0_L6 F p1 m zf zb za = some (zj, zk) ∧ zc = za.length ∧ Own 93 6 zd zc ze (flat c_T_api_Shot za) zh ∧ E = [(2, .pointer (some ⟨b2, 0, none⟩)), (3, .pointer (some ⟨b3, 0, none⟩)), (4, .pointer (some ⟨b4, 0, none⟩)), (5, .int .i64 zf)] ∧ L = (⟨b2, (.int .u64 p0.Frame :: .int .u64 p0.Seed :: pl14 zb [.slice zd zc ze, .int .u16 p0.Score.1, .int .u16 p0.Score.2]), 30, (0, 0)⟩ :: (⟨b3, [.int .u8 p1.1, .int .u8 p1.2], 49, (0, 0)⟩ :: (⟨b4, [.int .u64 (0 : Int), .int .u64 (0 : Int), .int .i32 (0 : Int), .int .i32 (0 : Int), .int .i32 (0 : Int), .int .i32 (0 : Int), .int .u8 (0 : Int), .int .u8 (0 : Int), .int .u8 (0 : Int), .int .i32 (0 : Int), .int .i32 (0 : Int), .int .i32 (0 : Int), .int .i32 (0 : Int), .int .u8 (0 : Int), .int .u8 (0 : Int), .int .u8 (0 : Int), .slice none 0 0, .int .u16 (0 : Int), .int .u16 (0 : Int)], 30, (0, 0)⟩ :: (zh ++ []))))) F ⟨(0 : Int), p0.Players, p0.Shots, p0a0, p0n0, p0c0, p0B0, h, p0N0, p0V0, rfl, rfl⟩ (agree_cons rfl (agree_cons rfl (agree_cons rfl (agree_cons rfl agree_nil)))) (pSub (pCons (sCC hC) (pS (pH (pA pNil))))) ?_
 clear h
 rintro m7 _ _ ⟨zf, zb, za, zd, zc, ze, zh, h, zg, zi, rfl, rfl⟩
 rcases m7 with _ | m7
 ·rw [m_hindcastref09_two_o0_L6.eq_1] at h; cases h
 rw [m_hindcastref09_two_o0_L6.eq_2] at h
 refine wc_seq (wSR (wP rfl rfl (wP (v := .bool (decide (zf < (2 : Int)))) rfl rfl (wNT (wc_cond rfl (fun hc => ?_) (fun hc => ?_))))))
 ·replace h := ct hc h
  refine wc_skip (wx_then (wc_seq (wc_block (wSR (wP rfl rfl (wP (v := .pointer (some ⟨b2, 2, none⟩)) rfl rfl ?_))))))
  rcases Bool.eq_false_or_eq_true (zf == (0 : Int)) with hx140 | hx140
  ·replace h := ct hx140 h
   refine wl_val (v := .pointer (some ⟨b2, 2, none⟩)) (val_ia (j := 0) tt_ok rfl rfl rfl rfl (by simpa using hx140) rfl rfl) rfl ?_
   refine wl_val (v := agP zb.1) (val_load tt_ok rfl mH rfl) rfl ?_
   refine wl_alloc tt_ok rfl rfl (fun b6 => ?_)
   apply wl_store tt_ok; rfl; exact Upd.here; rfl; rfl; rfl; rfl; rfl; rfl
   refine wNT (wc_seq (wSR (wP rfl rfl (wl_val (v := .pointer (some ⟨b3, 0, none⟩)) (val_ia (j := 0) tt_ok rfl rfl rfl rfl (by simpa using hx140) rfl rfl) rfl (wl_val (v := .int .u8 p1.1) (val_load tt_ok rfl (mTT mH) rfl) rfl ?_)))))
   obtain ⟨v19, x19, h⟩ := bsome h
   refine wl_cq Tryz.call97 rfl rfl rfl (q_pf (k_hindcastref06_Fire x19) (fun _ _ => trivial)) rfl ?_
   refine wP (v := .bool (!v19)) rfl rfl (wP rfl rfl ?_)
   obtain ⟨v25, h, hg25⟩ := bsome h
   refine wl_split (t := 21) rfl (fun hc => ?_) (fun hc => ?_)
   ·replace h := ct hc h
    iterate 3 refine wl_skip rfl rfl ?_
    obtain rfl := sI h
    have h := hg25; clear hg25
    refine wP (v := .bool true) rfl rfl (wP rfl rfl ?_)
    obtain ⟨v31, h, hg31⟩ := bsome h
    replace h := ct rfl h
    iterate 4 refine wl_skip rfl rfl ?_
    obtain rfl := sI h
    have h := hg31; clear hg31
    refine wP (v := .bool true) rfl rfl (wNT ?_)
    replace h := ct rfl h
    refine wc_cond_true rfl ?_
    refine wc_exit (wx_then_exit (wx_block_exit (wx_then (wc_region ?_))))
    refine wP rfl rfl (wP (v := .int .i64 (IntKind.wrap .i64 (zf + (1 : Int)))) rfl rfl (wP rfl rfl (wl_nil ?_)))
    exact wx_round m7 (Nat.lt_succ_self m7) ⟨(IntKind.wrap .i64 (zf + (1 : Int))), zb, za, zd, zc, ze, zh, h, zg, zi, rfl, rfl⟩ (agree_cons rfl (agree_cons rfl (agree_cons rfl (agree_cons rfl agree_nil)))) (pSub (pS (pS (pS (qS pNil)))))
   replace h := cf hc h
   refine wl_run rfl (wP (v := .pointer (some ⟨b6, 5, none⟩)) rfl rfl (wl_run rfl (wl_val (v := .int .u8 zb.1.Cool) (val_load tt_ok rfl mH rfl) rfl (wl_run rfl (wP (v := .bool (zb.1.Cool != (0 : Int))) rfl rfl ?_)))))
   obtain rfl := sI h
   have h := hg25; clear hg25
   refine wP (v := .bool (zb.1.Cool != (0 : Int))) rfl rfl (wP rfl rfl ?_)
   obtain ⟨v31, h, hg31⟩ := bsome h
   refine wl_split (t := 26) rfl (fun hc => ?_) (fun hc => ?_)
   ·replace h := ct hc h
    iterate 4 refine wl_skip rfl rfl ?_
    obtain rfl := sI h
    have h := hg31; clear hg31
    refine wP (v := .bool true) rfl rfl (wNT ?_)
    replace h := ct rfl h
    refine wc_cond_true rfl ?_
    refine wc_exit (wx_then_exit (wx_block_exit (wx_then (wc_region ?_))))
    refine wP rfl rfl (wP (v := .int .i64 (IntKind.wrap .i64 (zf + (1 : Int)))) rfl rfl (wP rfl rfl (wl_nil ?_)))
    exact wx_round m7 (Nat.lt_succ_self m7) ⟨(IntKind.wrap .i64 (zf + (1 : Int))), zb, za, zd, zc, ze, zh, h, zg, zi, rfl, rfl⟩ (agree_cons rfl (agree_cons rfl (agree_cons rfl (agree_cons rfl agree_nil)))) (pSub (pS (pS (pS (qS pNil)))))
   replace h := cf hc h
   refine wl_run rfl (wP (v := .pointer (some ⟨b2, 16, none⟩)) rfl rfl (wl_run rfl (wl_val (v := .slice zd zc ze) (val_load tt_ok rfl (mT mH) rfl) rfl (wl_run rfl (wl_val (v := .int .i64 (za.length : Int)) (val_len tt_ok rfl rfl zg) rfl (wl_run rfl (wP (v := .bool (decide ((8 : Int) ≤ (za.length : Int)))) rfl rfl ?_)))))))
   obtain rfl := sI h
   have h := hg31; clear hg31
   refine wP (v := .bool (decide ((8 : Int) ≤ (za.length : Int)))) rfl rfl (wNT (wc_cond rfl (fun hc => ?_) (fun hc => ?_)))
   ·replace h := ct hc h
    refine wc_exit (wx_then_exit (wx_block_exit (wx_then (wc_region ?_))))
    refine wP rfl rfl (wP (v := .int .i64 (IntKind.wrap .i64 (zf + (1 : Int)))) rfl rfl (wP rfl rfl (wl_nil ?_)))
    exact wx_round m7 (Nat.lt_succ_self m7) ⟨(IntKind.wrap .i64 (zf + (1 : Int))), zb, za, zd, zc, ze, zh, h, zg, zi, rfl, rfl⟩ (agree_cons rfl (agree_cons rfl (agree_cons rfl (agree_cons rfl agree_nil)))) (pSub (pS (pS (pS (qS pNil)))))
   replace h := cf hc h
   refine wc_skip (wx_then (wSR (wP (v := .pointer (some ⟨b6, 0, none⟩)) rfl rfl (wl_val (v := .int .i32 zb.1.X) (val_load tt_ok rfl mH rfl) rfl (wP (v := .int .i32 (IntKind.wrap .i32 (zb.1.X + (1792 : Int)))) rfl rfl (wP (v := .pointer (some ⟨b6, 1, none⟩)) rfl rfl (wl_val (v := .int .i32 zb.1.Y) (val_load tt_ok rfl mH rfl) rfl (wP (v := .int .i32 (IntKind.wrap .i32 (zb.1.Y + (1792 : Int)))) rfl rfl (wP rfl rfl (wP (v := .int .u8 (IntKind.wrap .u8 zf)) rfl rfl (wP (v := .agg #[.int .i32 (IntKind.wrap .i32 (zb.1.X + (1792 : Int))), .int .i32 (IntKind.wrap .i32 (zb.1.Y + (1792 : Int))), .int .i32 (0 : Int), .int .i32 (0 : Int), .int .u8 (IntKind.wrap .u8 zf), .int .u8 (40 : Int)]) rfl rfl ?_)))))))))))
   refine wl_alloc tt_ok rfl rfl (fun b7 => ?_)
   apply wl_store tt_ok; rfl; exact Upd.here; rfl; rfl; rfl; rfl; rfl; rfl
   refine wNT (wSR (wl_chg (chg_bsv (enc := (e1 .i32)) (xs := ([(2048 : Int), (-2048 : Int), (0 : Int), (0 : Int)] : List Int)) tt_ok rfl rfl rfl rfl rfl rfl rfl rfl (e1_len _)) rfl ?_))
   rintro _ _ ⟨a41, n41_, c41, B41, rfl, N41, V41, rfl⟩
   refine wP (v := .pointer (some ⟨b6, 6, none⟩)) rfl rfl (wl_val (v := .int .u8 zb.1.Face) (val_load tt_ok rfl (mR (mT mH)) rfl) rfl ?_)
   obtain ⟨v44, x44, h⟩ := bsome h
   refine wl_val (v := .pointer (some ((adOf a41).add (zb.1.Face.toNat * 1 + 0)))) (val_ix (enc := (e1 .i32)) tt_ok rfl rfl rfl rfl N41 (Rds.of_vec V41) (e1_len _) rfl x44) rfl ?_
   refine wl_val (v := .int .i32 v44) (val_le (enc := (e1 .i32)) (xs := ([(2048 : Int), (-2048 : Int), (0 : Int), (0 : Int)] : List Int)) tt_ok rfl (Rds.of_vec V41) ⟨_, hA'⟩ (e1_len _) x44 rfl) rfl ?_
   refine wP (v := .pointer (some ⟨b7, 2, none⟩)) rfl rfl ?_
   apply wl_store tt_ok; rfl; exact (Upd.right Upd.here); rfl; rfl; rfl; rfl; rfl; rfl
   refine wNT (wSR (wl_chg (chg_bsv (enc := (e1 .i32)) (xs := ([(0 : Int), (0 : Int), (-2048 : Int), (2048 : Int)] : List Int)) tt_ok rfl rfl rfl rfl rfl rfl rfl rfl (e1_len _)) rfl ?_))
   rintro _ _ ⟨a47, n47_, c47, B47, rfl, N47, V47, rfl⟩
   refine wP (v := .pointer (some ⟨b6, 6, none⟩)) rfl rfl (wl_val (v := .int .u8 zb.1.Face) (val_load tt_ok rfl (mR (mR (mT mH))) rfl) rfl ?_)
   obtain ⟨v50, x50, h⟩ := bsome h
   refine wl_val (v := .pointer (some ((adOf a47).add (zb.1.Face.toNat * 1 + 0)))) (val_ix (enc := (e1 .i32)) tt_ok rfl rfl rfl rfl N47 (Rds.of_vec V47) (e1_len _) rfl x50) rfl ?_
   refine wl_val (v := .int .i32 v50) (val_le (enc := (e1 .i32)) (xs := ([(0 : Int), (0 : Int), (-2048 : Int), (2048 : Int)] : List Int)) tt_ok rfl (Rds.of_vec V47) ⟨_, hA'⟩ (e1_len _) x50 rfl) rfl ?_
   refine wP (v := .pointer (some ⟨b7, 3, none⟩)) rfl rfl ?_
   apply wl_store tt_ok; rfl; exact (Upd.right (Upd.right Upd.here)); rfl; rfl; rfl; rfl; rfl; rfl
   refine wNT (wSR (wP (v := .pointer (some ⟨b2, 16, none⟩)) rfl rfl (wl_val (v := .slice zd zc ze) (val_load tt_ok rfl (mR (mR (mTT mH))) rfl) rfl (wl_val (v := .agg #[.int .i32 (IntKind.wrap .i32 (zb.1.X + (1792 : Int))), .int .i32 (IntKind.wrap .i32 (zb.1.Y + (1792 : Int))), .int .i32 v44, .int .i32 v50, .int .u8 (IntKind.wrap .u8 zf), .int .u8 (40 : Int)]) (val_load tt_ok rfl (mR (mR mH)) rfl) rfl (wl_chg (chg_bsv (enc := c_T_api_Shot) (xs := ([(T_api_Shot.mk (IntKind.wrap .i32 (zb.1.X + (1792 : Int))) (IntKind.wrap .i32 (zb.1.Y + (1792 : Int))) v44 v50 (IntKind.wrap .u8 zf) (40 : Int))] : List T_api_Shot)) tt_ok rfl rfl rfl rfl rfl rfl rfl rfl c_T_api_Shot_len) rfl ?_)))))
   rintro _ _ ⟨a56, n56_, c56, B56, rfl, N56, V56, rfl⟩
   obtain ⟨v57, x57, h⟩ := bsome h
   refine wl_chg (chg_app (enc := c_T_api_Shot) (ys := ([(T_api_Shot.mk (IntKind.wrap .i32 (zb.1.X + (1792 : Int))) (IntKind.wrap .i32 (zb.1.Y + (1792 : Int))) v44 v50 (IntKind.wrap .u8 zf) (40 : Int))] : List T_api_Shot)) tt_ok rfl rfl rfl rfl rfl rfl zg N56 zi (sAA (sA (sCC (sCC (sC hA'))))) (Rds.of_vec V56) ⟨_, hA'⟩ c_T_api_Shot_len (fun _ => rfl) rfl x57) rfl ?_
   rintro _ _ ⟨a57, n57_, c57, B57, rfl, N57, V57, rfl⟩
   refine wP (v := .pointer (some ⟨b2, 16, none⟩)) rfl rfl ?_
   apply wl_store tt_ok; rfl; exact (Upd.right (Upd.right (Upd.right (Upd.right (Upd.there (Upd.there Upd.here)))))); rfl; rfl; rfl; rfl; rfl; rfl
   refine wNT (wc_region (wP rfl rfl (wP (v := .pointer (some ⟨b2, 2, none⟩)) rfl rfl (wl_val (v := .pointer (some ⟨b2, 2, none⟩)) (val_ia (j := 0) tt_ok rfl rfl rfl rfl (by simpa using hx140) rfl rfl) rfl (wP (v := .pointer (some ⟨b2, 7, none⟩)) rfl rfl ?_)))))
   apply wl_store tt_ok; rfl; exact (Upd.right (Upd.right (Upd.right (Upd.right (Upd.there (Upd.there Upd.here)))))); rfl; rfl; rfl; rfl; rfl; rfl
   refine wl_nil (wx_block (wx_then (wc_region (wP rfl rfl (wP (v := .int .i64 (IntKind.wrap .i64 (zf + (1 : Int)))) rfl rfl (wP rfl rfl (wl_nil ?_)))))))
   exact wx_round m7 (Nat.lt_succ_self m7) ⟨(IntKind.wrap .i64 (zf + (1 : Int))), ((T_api_Player.mk zb.1.X zb.1.Y zb.1.VX zb.1.VY zb.1.Health (10 : Int) zb.1.Face), zb.2), v57, a57, n57_, c57, B57, h, N57, V57, rfl, rfl⟩ (agree_cons rfl (agree_cons rfl (agree_cons rfl (agree_cons rfl agree_nil)))) (pSub (pCons (sAA (sAA (sCC hC))) (pCons (sAA (sAA (sCC hC))) (pCons (sAA (sAA (sCC hC))) (pA pNil)))))
  replace h := cf hx140 h
  rcases Bool.eq_false_or_eq_true (zf == (1 : Int)) with hx141 | hx141
  ·replace h := ct hx141 h
   refine wl_val (v := .pointer (some ⟨b2, 9, none⟩)) (val_ia (j := 1) tt_ok rfl rfl rfl rfl (by simpa using hx141) rfl rfl) rfl ?_
   refine wl_val (v := agP zb.2) (val_load tt_ok rfl mH rfl) rfl ?_
   refine wl_alloc tt_ok rfl rfl (fun b6 => ?_)
   apply wl_store tt_ok; rfl; exact Upd.here; rfl; rfl; rfl; rfl; rfl; rfl
   refine wNT (wc_seq (wSR (wP rfl rfl (wl_val (v := .pointer (some ⟨b3, 1, none⟩)) (val_ia (j := 1) tt_ok rfl rfl rfl rfl (by simpa using hx141) rfl rfl) rfl (wl_val (v := .int .u8 p1.2) (val_load tt_ok rfl (mTT mH) rfl) rfl ?_)))))
   obtain ⟨v19, x19, h⟩ := bsome h
   refine wl_cq Tryz.call97 rfl rfl rfl (q_pf (k_hindcastref06_Fire x19) (fun _ _ => trivial)) rfl ?_
   refine wP (v := .bool (!v19)) rfl rfl (wP rfl rfl ?_)
   obtain ⟨v25, h, hg25⟩ := bsome h
   refine wl_split (t := 21) rfl (fun hc => ?_) (fun hc => ?_)
   ·replace h := ct hc h
    iterate 3 refine wl_skip rfl rfl ?_
    obtain rfl := sI h
    have h := hg25; clear hg25
    refine wP (v := .bool true) rfl rfl (wP rfl rfl ?_)
    obtain ⟨v31, h, hg31⟩ := bsome h
    replace h := ct rfl h
    iterate 4 refine wl_skip rfl rfl ?_
    obtain rfl := sI h
    have h := hg31; clear hg31
    refine wP (v := .bool true) rfl rfl (wNT ?_)
    replace h := ct rfl h
    refine wc_cond_true rfl ?_
    refine wc_exit (wx_then_exit (wx_block_exit (wx_then (wc_region ?_))))
    refine wP rfl rfl (wP (v := .int .i64 (IntKind.wrap .i64 (zf + (1 : Int)))) rfl rfl (wP rfl rfl (wl_nil ?_)))
    exact wx_round m7 (Nat.lt_succ_self m7) ⟨(IntKind.wrap .i64 (zf + (1 : Int))), zb, za, zd, zc, ze, zh, h, zg, zi, rfl, rfl⟩ (agree_cons rfl (agree_cons rfl (agree_cons rfl (agree_cons rfl agree_nil)))) (pSub (pS (pS (pS (qS pNil)))))
   replace h := cf hc h
   refine wl_run rfl (wP (v := .pointer (some ⟨b6, 5, none⟩)) rfl rfl (wl_run rfl (wl_val (v := .int .u8 zb.2.Cool) (val_load tt_ok rfl mH rfl) rfl (wl_run rfl (wP (v := .bool (zb.2.Cool != (0 : Int))) rfl rfl ?_)))))
   obtain rfl := sI h
   have h := hg25; clear hg25
   refine wP (v := .bool (zb.2.Cool != (0 : Int))) rfl rfl (wP rfl rfl ?_)
   obtain ⟨v31, h, hg31⟩ := bsome h
   refine wl_split (t := 26) rfl (fun hc => ?_) (fun hc => ?_)
   ·replace h := ct hc h
    iterate 4 refine wl_skip rfl rfl ?_
    obtain rfl := sI h
    have h := hg31; clear hg31
    refine wP (v := .bool true) rfl rfl (wNT ?_)
    replace h := ct rfl h
    refine wc_cond_true rfl ?_
    refine wc_exit (wx_then_exit (wx_block_exit (wx_then (wc_region ?_))))
    refine wP rfl rfl (wP (v := .int .i64 (IntKind.wrap .i64 (zf + (1 : Int)))) rfl rfl (wP rfl rfl (wl_nil ?_)))
    exact wx_round m7 (Nat.lt_succ_self m7) ⟨(IntKind.wrap .i64 (zf + (1 : Int))), zb, za, zd, zc, ze, zh, h, zg, zi, rfl, rfl⟩ (agree_cons rfl (agree_cons rfl (agree_cons rfl (agree_cons rfl agree_nil)))) (pSub (pS (pS (pS (qS pNil)))))
   replace h := cf hc h
   refine wl_run rfl (wP (v := .pointer (some ⟨b2, 16, none⟩)) rfl rfl (wl_run rfl (wl_val (v := .slice zd zc ze) (val_load tt_ok rfl (mT mH) rfl) rfl (wl_run rfl (wl_val (v := .int .i64 (za.length : Int)) (val_len tt_ok rfl rfl zg) rfl (wl_run rfl (wP (v := .bool (decide ((8 : Int) ≤ (za.length : Int)))) rfl rfl ?_)))))))
   obtain rfl := sI h
   have h := hg31; clear hg31
   refine wP (v := .bool (decide ((8 : Int) ≤ (za.length : Int)))) rfl rfl (wNT (wc_cond rfl (fun hc => ?_) (fun hc => ?_)))
   ·replace h := ct hc h
    refine wc_exit (wx_then_exit (wx_block_exit (wx_then (wc_region ?_))))
    refine wP rfl rfl (wP (v := .int .i64 (IntKind.wrap .i64 (zf + (1 : Int)))) rfl rfl (wP rfl rfl (wl_nil ?_)))
    exact wx_round m7 (Nat.lt_succ_self m7) ⟨(IntKind.wrap .i64 (zf + (1 : Int))), zb, za, zd, zc, ze, zh, h, zg, zi, rfl, rfl⟩ (agree_cons rfl (agree_cons rfl (agree_cons rfl (agree_cons rfl agree_nil)))) (pSub (pS (pS (pS (qS pNil)))))
   replace h := cf hc h
   refine wc_skip (wx_then (wSR (wP (v := .pointer (some ⟨b6, 0, none⟩)) rfl rfl (wl_val (v := .int .i32 zb.2.X) (val_load tt_ok rfl mH rfl) rfl (wP (v := .int .i32 (IntKind.wrap .i32 (zb.2.X + (1792 : Int)))) rfl rfl (wP (v := .pointer (some ⟨b6, 1, none⟩)) rfl rfl (wl_val (v := .int .i32 zb.2.Y) (val_load tt_ok rfl mH rfl) rfl (wP (v := .int .i32 (IntKind.wrap .i32 (zb.2.Y + (1792 : Int)))) rfl rfl (wP rfl rfl (wP (v := .int .u8 (IntKind.wrap .u8 zf)) rfl rfl (wP (v := .agg #[.int .i32 (IntKind.wrap .i32 (zb.2.X + (1792 : Int))), .int .i32 (IntKind.wrap .i32 (zb.2.Y + (1792 : Int))), .int .i32 (0 : Int), .int .i32 (0 : Int), .int .u8 (IntKind.wrap .u8 zf), .int .u8 (40 : Int)]) rfl rfl ?_)))))))))))
   refine wl_alloc tt_ok rfl rfl (fun b7 => ?_)
   apply wl_store tt_ok; rfl; exact Upd.here; rfl; rfl; rfl; rfl; rfl; rfl
   refine wNT (wSR (wl_chg (chg_bsv (enc := (e1 .i32)) (xs := ([(2048 : Int), (-2048 : Int), (0 : Int), (0 : Int)] : List Int)) tt_ok rfl rfl rfl rfl rfl rfl rfl rfl (e1_len _)) rfl ?_))
   rintro _ _ ⟨a41, n41_, c41, B41, rfl, N41, V41, rfl⟩
   refine wP (v := .pointer (some ⟨b6, 6, none⟩)) rfl rfl (wl_val (v := .int .u8 zb.2.Face) (val_load tt_ok rfl (mR (mT mH)) rfl) rfl ?_)
   obtain ⟨v44, x44, h⟩ := bsome h
   refine wl_val (v := .pointer (some ((adOf a41).add (zb.2.Face.toNat * 1 + 0)))) (val_ix (enc := (e1 .i32)) tt_ok rfl rfl rfl rfl N41 (Rds.of_vec V41) (e1_len _) rfl x44) rfl ?_
   refine wl_val (v := .int .i32 v44) (val_le (enc := (e1 .i32)) (xs := ([(2048 : Int), (-2048 : Int), (0 : Int), (0 : Int)] : List Int)) tt_ok rfl (Rds.of_vec V41) ⟨_, hA'⟩ (e1_len _) x44 rfl) rfl ?_
   refine wP (v := .pointer (some ⟨b7, 2, none⟩)) rfl rfl ?_
   apply wl_store tt_ok; rfl; exact (Upd.right Upd.here); rfl; rfl; rfl; rfl; rfl; rfl
   refine wNT (wSR (wl_chg (chg_bsv (enc := (e1 .i32)) (xs := ([(0 : Int), (0 : Int), (-2048 : Int), (2048 : Int)] : List Int)) tt_ok rfl rfl rfl rfl rfl rfl rfl rfl (e1_len _)) rfl ?_))
   rintro _ _ ⟨a47, n47_, c47, B47, rfl, N47, V47, rfl⟩
   refine wP (v := .pointer (some ⟨b6, 6, none⟩)) rfl rfl (wl_val (v := .int .u8 zb.2.Face) (val_load tt_ok rfl (mR (mR (mT mH))) rfl) rfl ?_)
   obtain ⟨v50, x50, h⟩ := bsome h
   refine wl_val (v := .pointer (some ((adOf a47).add (zb.2.Face.toNat * 1 + 0)))) (val_ix (enc := (e1 .i32)) tt_ok rfl rfl rfl rfl N47 (Rds.of_vec V47) (e1_len _) rfl x50) rfl ?_
   refine wl_val (v := .int .i32 v50) (val_le (enc := (e1 .i32)) (xs := ([(0 : Int), (0 : Int), (-2048 : Int), (2048 : Int)] : List Int)) tt_ok rfl (Rds.of_vec V47) ⟨_, hA'⟩ (e1_len _) x50 rfl) rfl ?_
   refine wP (v := .pointer (some ⟨b7, 3, none⟩)) rfl rfl ?_
   apply wl_store tt_ok; rfl; exact (Upd.right (Upd.right Upd.here)); rfl; rfl; rfl; rfl; rfl; rfl
   refine wNT (wSR (wP (v := .pointer (some ⟨b2, 16, none⟩)) rfl rfl (wl_val (v := .slice zd zc ze) (val_load tt_ok rfl (mR (mR (mTT mH))) rfl) rfl (wl_val (v := .agg #[.int .i32 (IntKind.wrap .i32 (zb.2.X + (1792 : Int))), .int .i32 (IntKind.wrap .i32 (zb.2.Y + (1792 : Int))), .int .i32 v44, .int .i32 v50, .int .u8 (IntKind.wrap .u8 zf), .int .u8 (40 : Int)]) (val_load tt_ok rfl (mR (mR mH)) rfl) rfl (wl_chg (chg_bsv (enc := c_T_api_Shot) (xs := ([(T_api_Shot.mk (IntKind.wrap .i32 (zb.2.X + (1792 : Int))) (IntKind.wrap .i32 (zb.2.Y + (1792 : Int))) v44 v50 (IntKind.wrap .u8 zf) (40 : Int))] : List T_api_Shot)) tt_ok rfl rfl rfl rfl rfl rfl rfl rfl c_T_api_Shot_len) rfl ?_)))))
   rintro _ _ ⟨a56, n56_, c56, B56, rfl, N56, V56, rfl⟩
   obtain ⟨v57, x57, h⟩ := bsome h
   refine wl_chg (chg_app (enc := c_T_api_Shot) (ys := ([(T_api_Shot.mk (IntKind.wrap .i32 (zb.2.X + (1792 : Int))) (IntKind.wrap .i32 (zb.2.Y + (1792 : Int))) v44 v50 (IntKind.wrap .u8 zf) (40 : Int))] : List T_api_Shot)) tt_ok rfl rfl rfl rfl rfl rfl zg N56 zi (sAA (sA (sCC (sCC (sC hA'))))) (Rds.of_vec V56) ⟨_, hA'⟩ c_T_api_Shot_len (fun _ => rfl) rfl x57) rfl ?_
   rintro _ _ ⟨a57, n57_, c57, B57, rfl, N57, V57, rfl⟩
   refine wP (v := .pointer (some ⟨b2, 16, none⟩)) rfl rfl ?_
   apply wl_store tt_ok; rfl; exact (Upd.right (Upd.right (Upd.right (Upd.right (Upd.there (Upd.there Upd.here)))))); rfl; rfl; rfl; rfl; rfl; rfl
   refine wNT (wc_region (wP rfl rfl (wP (v := .pointer (some ⟨b2, 2, none⟩)) rfl rfl (wl_val (v := .pointer (some ⟨b2, 9, none⟩)) (val_ia (j := 1) tt_ok rfl rfl rfl rfl (by simpa using hx141) rfl rfl) rfl (wP (v := .pointer (some ⟨b2, 14, none⟩)) rfl rfl ?_)))))
   apply wl_store tt_ok; rfl; exact (Upd.right (Upd.right (Upd.right (Upd.right (Upd.there (Upd.there Upd.here)))))); rfl; rfl; rfl; rfl; rfl; rfl
   refine wl_nil (wx_block (wx_then (wc_region (wP rfl rfl (wP (v := .int .i64 (IntKind.wrap .i64 (zf + (1 : Int)))) rfl rfl (wP rfl rfl (wl_nil ?_)))))))
   exact wx_round m7 (Nat.lt_succ_self m7) ⟨(IntKind.wrap .i64 (zf + (1 : Int))), (zb.1, (T_api_Player.mk zb.2.X zb.2.Y zb.2.VX zb.2.VY zb.2.Health (10 : Int) zb.2.Face)), v57, a57, n57_, c57, B57, h, N57, V57, rfl, rfl⟩ (agree_cons rfl (agree_cons rfl (agree_cons rfl (agree_cons rfl agree_nil)))) (pSub (pCons (sAA (sAA (sCC hC))) (pCons (sAA (sAA (sCC hC))) (pCons (sAA (sAA (sCC hC))) (pA pNil)))))
  replace h := cf hx141 h
  cases h
 replace h := cf hc h
 refine wc_exit (wx_then_exit ?_)
 obtain ⟨rfl, rfl⟩ := pJ2 h
 have h := hl7; clear hl7; try dsimp only [orE_l, orE_r] at h
 refine wx_then_exit (wx_block_exit (wx_then (wSR ?_)))
 refine wl_val (v := .agg #[.int .u64 p0.Frame, .int .u64 p0.Seed, .int .i32 zb.1.X, .int .i32 zb.1.Y, .int .i32 zb.1.VX, .int .i32 zb.1.VY, .int .u8 zb.1.Health, .int .u8 zb.1.Cool, .int .u8 zb.1.Face, .int .i32 zb.2.X, .int .i32 zb.2.Y, .int .i32 zb.2.VX, .int .i32 zb.2.VY, .int .u8 zb.2.Health, .int .u8 zb.2.Cool, .int .u8 zb.2.Face, .slice zd zc ze, .int .u16 p0.Score.1, .int .u16 p0.Score.2]) (val_load tt_ok rfl mH rfl) rfl ?_
 apply wl_store tt_ok; rfl; exact (Upd.there (Upd.there Upd.here)); rfl; rfl; rfl; rfl; rfl; rfl
 refine wNT (wc_ret ?_)
 obtain rfl := sI h
 exact wx_spD tt_ok (.inl rfl) Tryz.results76 (Res.cell rfl (mTT mH) rfl Res.nil) ⟨zd, zc, ze, zh, zg, zi, rfl, rfl⟩ (fun F => by simp) (pSub (pApp (sCC (sC hA')) pNil))

theorem k_hindcastref07_Move {F : Nat} {p0 : Int} {p1 : Int} {p2 : Int} {p3 : Int} {r0 : Int} {r1 : Int} (h : m_hindcastref07_Move F p0 p1 p2 p3 = some (r0, r1)) :
    Pf Tryz.prog 98 [.int .i32 p0, .int .i32 p1, .int .i32 p2, .int .i32 p3] (fun w => True) (.tuple #[.int .i32 r0, .int .i32 r1]) := by
 unfold m_hindcastref07_Move at h
 refine pf_of_wc Tryz.func98 rfl Tryz.ntmps98 rfl rfl (fun w0 hR => ?_)
 refine wSR ?_
 iterate 2 refine wP rfl rfl ?_
 refine wNT (wSR (wP rfl rfl (wP (v := .int .i64 (IntKind.wrap .i64 p0)) rfl rfl (wP rfl rfl (wP (v := .int .i64 (IntKind.wrap .i64 p1)) rfl rfl (wP (v := .int .i64 (IntKind.wrap .i64 ((IntKind.wrap .i64 p0) + (IntKind.wrap .i64 p1)))) rfl rfl (wP rfl rfl (wNT (wc_seq (wSR ?_))))))))))
 iterate 2 refine wP rfl rfl ?_
 refine wP (v := .bool (decide (p3 < p2))) rfl rfl (wNT (wc_cond rfl (fun hc => ?_) (fun hc => ?_)))
 ·replace h := ct hc h
  refine wSR ?_
  iterate 3 refine wP rfl rfl ?_
  refine wNT (wc_ret (wx_then_ret ?_))
  obtain ⟨rfl, rfl⟩ := pJ2 h
  exact wx_pf tt_ok (.inl rfl) Tryz.results98 (Res.tmp rfl (Res.tmp rfl Res.nil)) rfl
 replace h := cf hc h
 refine wc_skip (wx_then (wc_seq (wSR ?_)))
 iterate 2 refine wP rfl rfl ?_
 refine wP (v := .int .i64 (IntKind.wrap .i64 p2)) rfl rfl (wP (v := .bool (decide ((IntKind.wrap .i64 ((IntKind.wrap .i64 p0) + (IntKind.wrap .i64 p1))) < (IntKind.wrap .i64 p2)))) rfl rfl (wNT (wc_cond rfl (fun hc => ?_) (fun hc => ?_))))
 ·replace h := ct hc h
  refine wSR ?_
  iterate 3 refine wP rfl rfl ?_
  refine wNT (wc_ret (wx_then_ret ?_))
  obtain ⟨rfl, rfl⟩ := pJ2 h
  exact wx_pf tt_ok (.inl rfl) Tryz.results98 (Res.tmp rfl (Res.tmp rfl Res.nil)) rfl
 replace h := cf hc h
 refine wc_skip (wx_then (wc_seq (wSR ?_)))
 iterate 2 refine wP rfl rfl ?_
 refine wP (v := .int .i64 (IntKind.wrap .i64 p3)) rfl rfl (wP (v := .bool (decide ((IntKind.wrap .i64 p3) < (IntKind.wrap .i64 ((IntKind.wrap .i64 p0) + (IntKind.wrap .i64 p1)))))) rfl rfl (wNT (wc_cond rfl (fun hc => ?_) (fun hc => ?_))))
 ·replace h := ct hc h
  refine wSR ?_
  iterate 3 refine wP rfl rfl ?_
  refine wNT (wc_ret (wx_then_ret ?_))
  obtain ⟨rfl, rfl⟩ := pJ2 h
  exact wx_pf tt_ok (.inl rfl) Tryz.results98 (Res.tmp rfl (Res.tmp rfl Res.nil)) rfl
 replace h := cf hc h
 refine wc_skip (wx_then (wSR (wP rfl rfl (wP (v := .int .i32 (IntKind.wrap .i32 (IntKind.wrap .i64 ((IntKind.wrap .i64 p0) + (IntKind.wrap .i64 p1))))) rfl rfl ?_))))
 iterate 3 refine wP rfl rfl ?_
 refine wNT (wc_ret ?_)
 obtain ⟨rfl, rfl⟩ := pJ2 h
 exact wx_pf tt_ok (.inl rfl) Tryz.results98 (Res.tmp rfl (Res.tmp rfl Res.nil)) rfl

theorem k_hindcastref09_Box {F : Nat} {p0 : T_api_Player} {r0 : T_api_Box} (h : m_hindcastref09_Box F p0 = some r0) :
    Pf Tryz.prog 100 [agP p0] (fun w => True) (.agg #[.int .i32 r0.X, .int .i32 r0.Y, .int .i32 r0.W, .int .i32 r0.H]) := by
 unfold m_hindcastref09_Box at h
 refine pf_of_wc Tryz.func100 rfl Tryz.ntmps100 rfl rfl (fun w0 hR => ?_)
 refine wSR (wl_box rfl rfl rfl (fun b1 => (wl_alloc tt_ok rfl rfl (fun b2 => (wNT (wSR (wP (v := .pointer (some ⟨b1, 0, none⟩)) rfl rfl (wl_val (v := .int .i32 p0.X) (val_load tt_ok rfl (mT mH) rfl) rfl (wP (v := .pointer (some ⟨b1, 1, none⟩)) rfl rfl (wl_val (v := .int .i32 p0.Y) (val_load tt_ok rfl (mT mH) rfl) rfl (wP (v := .agg #[.int .i32 p0.X, .int .i32 p0.Y, .int .i32 (4096 : Int), .int .i32 (4096 : Int)]) rfl rfl ?_)))))))))))
 apply wl_store tt_ok; rfl; exact Upd.here; rfl; rfl; rfl; rfl; rfl; rfl
 refine wNT (wc_ret ?_)
 obtain rfl := sI h
 exact wx_pf tt_ok (.inl rfl) Tryz.results100 (Res.cell rfl mH rfl Res.nil) rfl

theorem k_hindcastref07_greater {F : Nat} {p0 : Int} {p1 : Int} {r0 : Int} (h : m_hindcastref07_greater F p0 p1 = some r0) :
    Pf Tryz.prog 109 [.int .i64 p0, .int .i64 p1] (fun w => True) (.int .i64 r0) := by
 unfold m_hindcastref07_greater at h
 refine pf_of_wc Tryz.func109 rfl Tryz.ntmps109 rfl rfl (fun w0 hR => ?_)
 refine wSR (wP rfl rfl (wNT (wc_seq (wSR ?_))))
 iterate 2 refine wP rfl rfl ?_
 refine wP (v := .bool (decide (p1 < p0))) rfl rfl (wNT (wc_cond rfl (fun hc => ?_) (fun hc => ?_)))
 ·replace h := ct hc h
  refine wSR ?_
  iterate 2 refine wP rfl rfl ?_
  refine wNT (wc_ret (wx_then_ret ?_))
  obtain rfl := sI h
  exact wx_pf tt_ok (.inl rfl) Tryz.results109 (Res.tmp rfl Res.nil) rfl
 replace h := cf hc h
 refine wc_skip (wx_then (wSR ?_))
 iterate 2 refine wP rfl rfl ?_
 refine wNT (wc_ret ?_)
 obtain rfl := sI h
 exact wx_pf tt_ok (.inl rfl) Tryz.results109 (Res.tmp rfl Res.nil) rfl

theorem k_hindcastref07_Has {F : Nat} {p0 : T_api_Box} {p1 : Int} {p2 : Int} {r0 : Bool} (h : m_hindcastref07_Has F p0 p1 p2 = some r0) :
    Pf Tryz.prog 110 [.agg #[.int .i32 p0.X, .int .i32 p0.Y, .int .i32 p0.W, .int .i32 p0.H], .int .i64 p1, .int .i64 p2] (fun w => True) (.bool r0) := by
 unfold m_hindcastref07_Has at h
 refine pf_of_wc Tryz.func110 rfl Tryz.ntmps110 rfl rfl (fun w0 hR => ?_)
 refine wSR (wl_box rfl rfl rfl (fun b3 => (wP rfl rfl (wNT (wSR (wP rfl rfl (wP (v := .pointer (some ⟨b3, 0, none⟩)) rfl rfl (wl_val (v := .int .i32 p0.X) (val_load tt_ok rfl mH rfl) rfl (wP (v := .int .i64 (IntKind.wrap .i64 p0.X)) rfl rfl (wP (v := .bool (decide ((IntKind.wrap .i64 p0.X) ≤ p1))) rfl rfl (wP rfl rfl ?_)))))))))))
 obtain ⟨v22, h, hg22⟩ := bsome h
 refine wl_split (t := 12) rfl (fun hc => ?_) (fun hc => ?_)
 ·replace h := ct hc h
  refine wl_run rfl (wP rfl rfl (wl_run rfl (wP (v := .pointer (some ⟨b3, 0, none⟩)) rfl rfl (wl_run rfl (wl_val (v := .int .i32 p0.X) (val_load tt_ok rfl mH rfl) rfl (wl_run rfl (wP (v := .int .i64 (IntKind.wrap .i64 p0.X)) rfl rfl (wl_run rfl (wP (v := .int .i64 (IntKind.wrap .i64 (p1 - (IntKind.wrap .i64 p0.X)))) rfl rfl (wl_run rfl (wP (v := .pointer (some ⟨b3, 2, none⟩)) rfl rfl (wl_run rfl (wl_val (v := .int .i32 p0.W) (val_load tt_ok rfl mH rfl) rfl (wl_run rfl (wP (v := .int .i64 (IntKind.wrap .i64 p0.W)) rfl rfl (wl_run rfl (wP (v := .bool (decide ((IntKind.wrap .i64 (p1 - (IntKind.wrap .i64 p0.X))) < (IntKind.wrap .i64 p0.W)))) rfl rfl ?_)))))))))))))))))
  obtain rfl := sI h
  have h := hg22; clear hg22
  refine wP (v := .bool (decide ((IntKind.wrap .i64 (p1 - (IntKind.wrap .i64 p0.X))) < (IntKind.wrap .i64 p0.W)))) rfl rfl (wP rfl rfl ?_)
  obtain ⟨v29, h, hg29⟩ := bsome h
  refine wl_split (t := 23) rfl (fun hc => ?_) (fun hc => ?_)
  ·replace h := ct hc h
   refine wl_run rfl (wP rfl rfl (wl_run rfl (wP (v := .pointer (some ⟨b3, 1, none⟩)) rfl rfl (wl_run rfl (wl_val (v := .int .i32 p0.Y) (val_load tt_ok rfl mH rfl) rfl (wl_run rfl (wP (v := .int .i64 (IntKind.wrap .i64 p0.Y)) rfl rfl (wl_run rfl (wP (v := .bool (decide ((IntKind.wrap .i64 p0.Y) ≤ p2))) rfl rfl ?_)))))))))
   obtain rfl := sI h
   have h := hg29; clear hg29
   refine wP (v := .bool (decide ((IntKind.wrap .i64 p0.Y) ≤ p2))) rfl rfl (wP rfl rfl ?_)
   obtain ⟨v40, h, hg40⟩ := bsome h
   refine wl_split (t := 30) rfl (fun hc => ?_) (fun hc => ?_)
   ·replace h := ct hc h
    refine wl_run rfl (wP rfl rfl (wl_run rfl (wP (v := .pointer (some ⟨b3, 1, none⟩)) rfl rfl (wl_run rfl (wl_val (v := .int .i32 p0.Y) (val_load tt_ok rfl mH rfl) rfl (wl_run rfl (wP (v := .int .i64 (IntKind.wrap .i64 p0.Y)) rfl rfl (wl_run rfl (wP (v := .int .i64 (IntKind.wrap .i64 (p2 - (IntKind.wrap .i64 p0.Y)))) rfl rfl (wl_run rfl (wP (v := .pointer (some ⟨b3, 3, none⟩)) rfl rfl (wl_run rfl (wl_val (v := .int .i32 p0.H) (val_load tt_ok rfl mH rfl) rfl (wl_run rfl (wP (v := .int .i64 (IntKind.wrap .i64 p0.H)) rfl rfl (wl_run rfl (wP (v := .bool (decide ((IntKind.wrap .i64 (p2 - (IntKind.wrap .i64 p0.Y))) < (IntKind.wrap .i64 p0.H)))) rfl rfl ?_)))))))))))))))))
    obtain rfl := sI h
    have h := hg40; clear hg40
    refine wP (v := .bool (decide ((IntKind.wrap .i64 (p2 - (IntKind.wrap .i64 p0.Y))) < (IntKind.wrap .i64 p0.H)))) rfl rfl (wP rfl rfl (wNT (wc_ret ?_)))
    obtain rfl := sI h
    exact wx_pf tt_ok (.inl rfl) Tryz.results110 (Res.tmp rfl Res.nil) rfl
   replace h := cf hc h
   iterate 9 refine wl_skip rfl rfl ?_
   obtain rfl := sI h
   have h := hg40; clear hg40
   refine wP (v := .bool false) rfl rfl (wP rfl rfl (wNT (wc_ret ?_)))
   obtain rfl := sI h
   exact wx_pf tt_ok (.inl rfl) Tryz.results110 (Res.tmp rfl Res.nil) rfl
  replace h := cf hc h
  iterate 5 refine wl_skip rfl rfl ?_
  obtain rfl := sI h
  have h := hg29; clear hg29
  refine wP (v := .bool false) rfl rfl (wP rfl rfl ?_)
  obtain ⟨v40, h, hg40⟩ := bsome h
  replace h := cf rfl h
  iterate 9 refine wl_skip rfl rfl ?_
  obtain rfl := sI h
  have h := hg40; clear hg40
  refine wP (v := .bool false) rfl rfl (wP rfl rfl (wNT (wc_ret ?_)))
  obtain rfl := sI h
  exact wx_pf tt_ok (.inl rfl) Tryz.results110 (Res.tmp rfl Res.nil) rfl
 replace h := cf hc h
 iterate 9 refine wl_skip rfl rfl ?_
 obtain rfl := sI h
 have h := hg22; clear hg22
 refine wP (v := .bool false) rfl rfl (wP rfl rfl ?_)
 obtain ⟨v29, h, hg29⟩ := bsome h
 replace h := cf rfl h
 iterate 5 refine wl_skip rfl rfl ?_
 obtain rfl := sI h
 have h := hg29; clear hg29
 refine wP (v := .bool false) rfl rfl (wP rfl rfl ?_)
 obtain ⟨v40, h, hg40⟩ := bsome h
 replace h := cf rfl h
 iterate 9 refine wl_skip rfl rfl ?_
 obtain rfl := sI h
 have h := hg40; clear hg40
 refine wP (v := .bool false) rfl rfl (wP rfl rfl (wNT (wc_ret ?_)))
 obtain rfl := sI h
 exact wx_pf tt_ok (.inl rfl) Tryz.results110 (Res.tmp rfl Res.nil) rfl

theorem k_hindcastref07_Over {F : Nat} {p0 : T_api_Box} {p1 : T_api_Box} {r0 : Bool} (h : m_hindcastref07_Over F p0 p1 = some r0) :
    Pf Tryz.prog 99 [.agg #[.int .i32 p0.X, .int .i32 p0.Y, .int .i32 p0.W, .int .i32 p0.H], .agg #[.int .i32 p1.X, .int .i32 p1.Y, .int .i32 p1.W, .int .i32 p1.H]] (fun w => True) (.bool r0) := by
 unfold m_hindcastref07_Over at h
 refine pf_of_wc Tryz.func99 rfl Tryz.ntmps99 rfl rfl (fun w0 hR => ?_)
 refine wSR (wl_box rfl rfl rfl (fun b2 => (wl_box rfl rfl rfl (fun b3 => (wP rfl rfl (wNT (wSR (wP (v := .pointer (some ⟨b2, 0, none⟩)) rfl rfl (wl_val (v := .int .i32 p0.X) (val_load tt_ok rfl (mT mH) rfl) rfl (wP (v := .int .i64 (IntKind.wrap .i64 p0.X)) rfl rfl (wP (v := .pointer (some ⟨b3, 0, none⟩)) rfl rfl (wl_val (v := .int .i32 p1.X) (val_load tt_ok rfl mH rfl) rfl (wP (v := .int .i64 (IntKind.wrap .i64 p1.X)) rfl rfl ?_)))))))))))))
 obtain ⟨v13, x13, h⟩ := bsome h
 refine wl_cq Tryz.call109 rfl rfl rfl (q_pf (k_hindcastref07_greater x13) (fun _ _ => trivial)) rfl ?_
 refine wP rfl rfl (wNT (wSR (wP (v := .pointer (some ⟨b2, 1, none⟩)) rfl rfl (wl_val (v := .int .i32 p0.Y) (val_load tt_ok rfl (mT mH) rfl) rfl (wP (v := .int .i64 (IntKind.wrap .i64 p0.Y)) rfl rfl (wP (v := .pointer (some ⟨b3, 1, none⟩)) rfl rfl (wl_val (v := .int .i32 p1.Y) (val_load tt_ok rfl mH rfl) rfl (wP (v := .int .i64 (IntKind.wrap .i64 p1.Y)) rfl rfl ?_))))))))
 obtain ⟨v20, x20, h⟩ := bsome h
 refine wl_cq Tryz.call109 rfl rfl rfl (q_pf (k_hindcastref07_greater x20) (fun _ _ => trivial)) rfl ?_
 refine wP rfl rfl (wNT (wSR (wl_val (v := .agg #[.int .i32 p0.X, .int .i32 p0.Y, .int .i32 p0.W, .int .i32 p0.H]) (val_load tt_ok rfl (mT mH) rfl) rfl ?_)))
 iterate 2 refine wP rfl rfl ?_
 obtain ⟨v24, x24, h⟩ := bsome h
 refine wl_cq Tryz.call110 rfl rfl rfl (q_pf (k_hindcastref07_Has x24) (fun _ _ => trivial)) rfl ?_
 refine wP rfl rfl ?_
 obtain ⟨v30, h, hg30⟩ := bsome h
 refine wl_split (t := 25) rfl (fun hc => ?_) (fun hc => ?_)
 ·replace h := ct hc h
  refine wl_run rfl (wl_val (v := .agg #[.int .i32 p1.X, .int .i32 p1.Y, .int .i32 p1.W, .int .i32 p1.H]) (val_load tt_ok rfl mH rfl) rfl (wl_run rfl (wP rfl rfl (wl_run rfl (wP rfl rfl ?_)))))
  obtain ⟨v29, x29, h⟩ := bsome h
  refine wl_run rfl (wl_cq Tryz.call110 rfl rfl rfl (q_pf (k_hindcastref07_Has x29) (fun _ _ => trivial)) rfl ?_)
  obtain rfl := sI h
  have h := hg30; clear hg30
  refine wP (v := .bool v29) rfl rfl (wP rfl rfl (wNT (wc_ret ?_)))
  obtain rfl := sI h
  exact wx_pf tt_ok (.inl rfl) Tryz.results99 (Res.tmp rfl Res.nil) rfl
 replace h := cf hc h
 iterate 4 refine wl_skip rfl rfl ?_
 obtain rfl := sI h
 have h := hg30; clear hg30
 refine wP (v := .bool false) rfl rfl (wP rfl rfl (wNT (wc_ret ?_)))
 obtain rfl := sI h
 exact wx_pf tt_ok (.inl rfl) Tryz.results99 (Res.tmp rfl Res.nil) rfl

theorem k_hindcastref09_three_o0 {F : Nat} {p0 : T_api_State} {p0a0 : Option Addr} {p0n0 p0c0 : Nat} {p0B0 : List Blk} {r0 : T_api_State} (p0N0 : p0n0 = p0.Shots.length) (p0V0 : Own 93 6 p0a0 p0n0 p0c0 (flat c_T_api_Shot p0.Shots) p0B0) (h : m_hindcastref09_three_o0 F p0 = some r0) :
    SpD Tryz.prog 77 [agS p0 p0a0 p0n0 p0c0] (p0B0 ++ []) (fun w => True) (fun v D => ∃ (r0a0 : Option Addr) (r0n0 r0c0 : Nat) (r0B0 : List Blk), r0n0 = r0.Shots.length ∧ Own 93 6 r0a0 r0n0 r0c0 (flat c_T_api_Shot r0.Shots) r0B0 ∧ v = agS r0 r0a0 r0n0 r0c0 ∧ D = fun F => (r0B0 ++ F)) := by
 unfold m_hindcastref09_three_o0 at h
 refine sp_of_wc Tryz.func77 rfl Tryz.ntmps77 rfl rfl (fun w0 hR => ?_)
 refine wSR (wl_box rfl rfl rfl (fun b1 => (wl_alloc tt_ok rfl rfl (fun b2 => (wNT (wSR (wP (v := .pointer (some ⟨b1, 2, none⟩)) rfl rfl (wl_val (v := .agg #[.int .i32 p0.Players.1.X, .int .i32 p0.Players.1.Y, .int .i32 p0.Players.1.VX, .int .i32 p0.Players.1.VY, .int .u8 p0.Players.1.Health, .int .u8 p0.Players.1.Cool, .int .u8 p0.Players.1.Face, .int .i32 p0.Players.2.X, .int .i32 p0.Players.2.Y, .int .i32 p0.Players.2.VX, .int .i32 p0.Players.2.VY, .int .u8 p0.Players.2.Health, .int .u8 p0.Players.2.Cool, .int .u8 p0.Players.2.Face]) (val_load tt_ok rfl (mT mH) rfl) rfl (wl_alloc tt_ok rfl rfl (fun b3 => ?_))))))))))
 apply wl_store tt_ok; rfl; exact Upd.here; rfl; rfl; rfl; rfl; rfl; rfl
 refine wNT (wc_seq (wSR (wP rfl rfl (wNT (wc_block ?_)))))
 obtain ⟨zk, h, hl9⟩ := bsome h
 refine wc_loop (fun m E L => ∃ (ze : Int) (za : (T_api_Player × T_api_Player)), m_hindcastref09_three_o0_L8 F p0 m ze za = some zk ∧ E = [(1, .pointer (some ⟨b1, 0, none⟩)), (2, .pointer (some ⟨b2, 0, none⟩)), (3, .pointer (some ⟨b3, 0, none⟩)), (4, .int .i64 ze)] ∧ L = (⟨b1, (.int .u64 p0.Frame :: .int .u64 p0.Seed :: pl14 za [.slice p0a0 p0n0 p0c0, .int .u16 p0.Score.1, .int .u16 p0.Score.2]), 30, (0, 0)⟩ :: (⟨b2, [.int .u64 (0 : Int), .int .u64 (0 : Int), .int .i32 (0 : Int), .int .i32 (0 : Int), .int .i32 (0 : Int), .int .i32 (0 : Int), .int .u8 (0 : Int), .int .u8 (0 : Int), .int .u8 (0 : Int), .int .i32 (0 : Int), .int .i32 (0 : Int), .int .i32 (0 : Int), .int .i32 (0 : Int), .int .u8 (0 : Int), .int .u8 (0 : Int), .int .u8 (0 : Int), .slice none 0 0, .int .u16 (0 : Int), .int .u16 (0 : Int)], 30, (0, 0)⟩ :: (⟨b3, (pl14 p0.Players []), 25, (0, 0)⟩ :: (p0B0 ++ []))))) F ⟨(0 : Int), p0.Players, h, rfl, rfl⟩ (agree_cons rfl (agree_cons rfl (agree_cons rfl (agree_cons rfl agree_nil)))) (pSub (pCons (sCC hC) (pS (pH (pA pNil))))) ?_
 clear h
 rintro m9 _ _ ⟨ze, za, h, rfl, rfl⟩
 rcases m9 with _ | m9
 ·rw [m_hindcastref09_three_o0_L8.eq_1] at h; cases h
 rw [m_hindcastref09_three_o0_L8.eq_2] at h
 refine wc_seq (wSR (wP rfl rfl (wP (v := .bool (decide (ze < (2 : Int)))) rfl rfl (wNT (wc_cond rfl (fun hc => ?_) (fun hc => ?_))))))
 ·replace h := ct hc h
  refine wc_skip (wx_then (wc_seq (wc_block (wSR (wP rfl rfl (wP (v := .pointer (some ⟨b1, 2, none⟩)) rfl rfl ?_))))))
  rcases Bool.eq_false_or_eq_true (ze == (0 : Int)) with hx150 | hx150
  ·replace h := ct hx150 h
   refine wl_val (v := .pointer (some ⟨b1, 2, none⟩)) (val_ia (j := 0) tt_ok rfl rfl rfl rfl (by simpa using hx150) rfl rfl) rfl ?_
   refine wl_val (v := agP za.1) (val_load tt_ok rfl mH rfl) rfl ?_
   refine wl_alloc tt_ok rfl rfl (fun b5 => ?_)
   apply wl_store tt_ok; rfl; exact Upd.here; rfl; rfl; rfl; rfl; rfl; rfl
   refine wNT (wc_seq (wc_k2 (Ls := (⟨b1, (.int .u64 p0.Frame :: .int .u64 p0.Seed :: pl14 za [.slice p0a0 p0n0 p0c0, .int .u16 p0.Score.1, .int .u16 p0.Score.2]), 30, (0, 0)⟩ :: (⟨b2, [.int .u64 (0 : Int), .int .u64 (0 : Int), .int .i32 (0 : Int), .int .i32 (0 : Int), .int .i32 (0 : Int), .int .i32 (0 : Int), .int .u8 (0 : Int), .int .u8 (0 : Int), .int .u8 (0 : Int), .int .i32 (0 : Int), .int .i32 (0 : Int), .int .i32 (0 : Int), .int .i32 (0 : Int), .int .u8 (0 : Int), .int .u8 (0 : Int), .int .u8 (0 : Int), .slice none 0 0, .int .u16 (0 : Int), .int .u16 (0 : Int)], 30, (0, 0)⟩ :: (⟨b3, (pl14 p0.Players []), 25, (0, 0)⟩ :: (p0B0 ++ []))))) [8, 13, 14, 15] [14, 15] [0, 1, 3, 7, 0, 16, 48, 112, 255, 511, 1023, 1023, 2047, 6143, 16383, 32767] [0, 1, 2, 3, 4, 5, 6, 7, 8, 9, 10, 11, 12, 13, 14, 15] (by kernel_rfl) (by kernel_rfl) (by kernel_rfl) ?_))
   refine k_val rfl rfl rfl (pSub (pS (pS (pS (qS pNil))))) (sV rfl) rfl (k_val (v := .pointer (some ⟨b3, 0, none⟩)) rfl rfl rfl (pSub (pS (pS (pS (qS pNil))))) (val_ia (j := 0) tt_ok rfl rfl rfl rfl (by simpa using hx150) rfl rfl) rfl (k_val (v := .pointer (some ⟨b3, 0, none⟩)) rfl rfl rfl (pSub (pS (pS (pS (qS pNil))))) (sV rfl) rfl (k_val (v := .int .i32 p0.Players.1.X) rfl rfl rfl (pSub (pS (pS (pS (qS pNil))))) (val_load tt_ok rfl (mTT mH) rfl) rfl ?_)))
   refine k_val rfl rfl rfl (pSub (pS (pS (pS (qS pNil))))) (sV rfl) rfl (k_val (v := .pointer (some ⟨b3, 0, none⟩)) rfl rfl rfl (pSub (pS (pS (pS (qS pNil))))) (val_ia (j := 0) tt_ok rfl rfl rfl rfl (by simpa using hx150) rfl rfl) rfl (k_val (v := .pointer (some ⟨b3, 2, none⟩)) rfl rfl rfl (pSub (pS (pS (pS (qS pNil))))) (sV rfl) rfl (k_val (v := .int .i32 p0.Players.1.VX) rfl rfl rfl (pSub (pS (pS (pS (qS pNil))))) (val_load tt_ok rfl (mTT mH) rfl) rfl ?_)))
   replace h := bsome h; obtain ⟨⟨zf, zg⟩, x26, h⟩ := h; try dsimp only at h
   refine k_cq rfl rfl rfl Tryz.call98 rfl rfl rfl (q_pf (k_hindcastref07_Move x26) (fun _ _ => trivial)) rfl (pSub (pS (pS (pS (qS pNil))))) ?_
   iterate 3 refine k_val rfl rfl rfl (pSub (pS (pS (pS (qS pNil))))) (sV rfl) rfl ?_
   refine k_val (v := .pointer (some ⟨b5, 0, none⟩)) rfl rfl rfl (pSub (pS (pS (pS (qS pNil))))) (sV rfl) rfl (k_chg0 rfl rfl rfl (chg_store tt_ok rfl Upd.here rfl rfl rfl rfl rfl rfl) (.inr (by rintro _ _ rfl; exact ⟨_, (pS (pS (pS (qS pNil))))⟩)) ?_)
   rintro _ _ rfl
   refine k_chg rfl rfl rfl (Chg.of_val (v := .pointer (some ⟨b5, 2, none⟩)) (sV rfl)) rfl (.inl rfl) ?_
   rintro _ _ ⟨rfl, rfl⟩
   refine k_chg0 rfl rfl rfl (chg_store tt_ok rfl Upd.here rfl rfl rfl rfl rfl rfl) (.inl rfl) ?_
   rintro _ _ rfl
   refine k_end (by kernel_rfl) ?_
   refine wx_then (wc_seq (wc_k2 (Ls := (⟨b1, (.int .u64 p0.Frame :: .int .u64 p0.Seed :: pl14 za [.slice p0a0 p0n0 p0c0, .int .u16 p0.Score.1, .int .u16 p0.Score.2]), 30, (0, 0)⟩ :: (⟨b2, [.int .u64 (0 : Int), .int .u64 (0 : Int), .int .i32 (0 : Int), .int .i32 (0 : Int), .int .i32 (0 : Int), .int .i32 (0 : Int), .int .u8 (0 : Int), .int .u8 (0 : Int), .int .u8 (0 : Int), .int .i32 (0 : Int), .int .i32 (0 : Int), .int .i32 (0 : Int), .int .i32 (0 : Int), .int .u8 (0 : Int), .int .u8 (0 : Int), .int .u8 (0 : Int), .slice none 0 0, .int .u16 (0 : Int), .int .u16 (0 : Int)], 30, (0, 0)⟩ :: (⟨b3, (pl14 p0.Players []), 25, (0, 0)⟩ :: (p0B0 ++ []))))) [8, 13, 14, 15] [14, 15] [0, 1, 3, 7, 0, 16, 48, 112, 255, 511, 1023, 1023, 2047, 6143, 16383, 32767] [0, 1, 2, 3, 4, 5, 6, 7, 8, 9, 10, 11, 12, 13, 14, 15] (by kernel_rfl) (by kernel_rfl) (by kernel_rfl) ?_))
   refine k_val rfl rfl rfl (pSub (pS (pS (pS (qS pNil))))) (sV rfl) rfl (k_val (v := .pointer (some ⟨b3, 0, none⟩)) rfl rfl rfl (pSub (pS (pS (pS (qS pNil))))) (val_ia (j := 0) tt_ok rfl rfl rfl rfl (by simpa using hx150) rfl rfl) rfl (k_val (v := .pointer (some ⟨b3, 1, none⟩)) rfl rfl rfl (pSub (pS (pS (pS (qS pNil))))) (sV rfl) rfl (k_val (v := .int .i32 p0.Players.1.Y) rfl rfl rfl (pSub (pS (pS (pS (qS pNil))))) (val_load tt_ok rfl (mTT mH) rfl) rfl ?_)))
   refine k_val rfl rfl rfl (pSub (pS (pS (pS (qS pNil))))) (sV rfl) rfl (k_val (v := .pointer (some ⟨b3, 0, none⟩)) rfl rfl rfl (pSub (pS (pS (pS (qS pNil))))) (val_ia (j := 0) tt_ok rfl rfl rfl rfl (by simpa using hx150) rfl rfl) rfl (k_val (v := .pointer (some ⟨b3, 3, none⟩)) rfl rfl rfl (pSub (pS (pS (pS (qS pNil))))) (sV rfl) rfl (k_val (v := .int .i32 p0.Players.1.VY) rfl rfl rfl (pSub (pS (pS (pS (qS pNil))))) (val_load tt_ok rfl (mTT mH) rfl) rfl ?_)))
   replace h := bsome h; obtain ⟨⟨zh, zi⟩, x40, h⟩ := h; try dsimp only at h
   refine k_cq rfl rfl rfl Tryz.call98 rfl rfl rfl (q_pf (k_hindcastref07_Move x40) (fun _ _ => trivial)) rfl (pSub (pS (pS (pS (qS pNil))))) ?_
   iterate 3 refine k_val rfl rfl rfl (pSub (pS (pS (pS (qS pNil))))) (sV rfl) rfl ?_
   refine k_val (v := .pointer (some ⟨b5, 1, none⟩)) rfl rfl rfl (pSub (pS (pS (pS (qS pNil))))) (sV rfl) rfl (k_chg0 rfl rfl rfl (chg_store tt_ok rfl Upd.here rfl rfl rfl rfl rfl rfl) (.inr (by rintro _ _ rfl; exact ⟨_, (pS (pS (pS (qS pNil))))⟩)) ?_)
   rintro _ _ rfl
   refine k_chg rfl rfl rfl (Chg.of_val (v := .pointer (some ⟨b5, 3, none⟩)) (sV rfl)) rfl (.inl rfl) ?_
   rintro _ _ ⟨rfl, rfl⟩
   refine k_chg0 rfl rfl rfl (chg_store tt_ok rfl Upd.here rfl rfl rfl rfl rfl rfl) (.inl rfl) ?_
   rintro _ _ rfl
   refine k_end (by kernel_rfl) ?_
   refine wx_then (wc_region (wP rfl rfl (wl_val (v := .agg #[.int .i32 zf, .int .i32 zh, .int .i32 zg, .int .i32 zi, .int .u8 za.1.Health, .int .u8 za.1.Cool, .int .u8 za.1.Face]) (val_load tt_ok rfl mH rfl) rfl (wP (v := .pointer (some ⟨b1, 2, none⟩)) rfl rfl (wl_val (v := .pointer (some ⟨b1, 2, none⟩)) (val_ia (j := 0) tt_ok rfl rfl rfl rfl (by simpa using hx150) rfl rfl) rfl ?_)))))
   apply wl_store tt_ok; rfl; exact (Upd.there Upd.here); rfl; rfl; rfl; rfl; rfl; rfl
   refine wl_nil (wx_block (wx_then (wc_region (wP rfl rfl (wP (v := .int .i64 (IntKind.wrap .i64 (ze + (1 : Int)))) rfl rfl (wP rfl rfl (wl_nil ?_)))))))
   exact wx_round m9 (Nat.lt_succ_self m9) ⟨(IntKind.wrap .i64 (ze + (1 : Int))), ((T_api_Player.mk zf zh zg zi za.1.Health za.1.Cool za.1.Face), za.2), h, rfl, rfl⟩ (agree_cons rfl (agree_cons rfl (agree_cons rfl (agree_cons rfl agree_nil)))) (pSub (pS (pS (pS (qS pNil)))))
  replace h := cf hx150 h
  rcases Bool.eq_false_or_eq_true (ze == (1 : Int)) with hx151 | hx151
  ·replace h := ct hx151 h
   refine wl_val (v := .pointer (some ⟨b1, 9, none⟩)) (val_ia (j := 1) tt_ok rfl rfl rfl rfl (by simpa using hx151) rfl rfl) rfl ?_
   refine wl_val (v := agP za.2) (val_load tt_ok rfl mH rfl) rfl ?_
   refine wl_alloc tt_ok rfl rfl (fun b5 => ?_)
   apply wl_store tt_ok; rfl; exact Upd.here; rfl; rfl; rfl; rfl; rfl; rfl
   refine wNT (wc_seq (wc_k2 (Ls := (⟨b1, (.int .u64 p0.Frame :: .int .u64 p0.Seed :: pl14 za [.slice p0a0 p0n0 p0c0, .int .u16 p0.Score.1, .int .u16 p0.Score.2]), 30, (0, 0)⟩ :: (⟨b2, [.int .u64 (0 : Int), .int .u64 (0 : Int), .int .i32 (0 : Int), .int .i32 (0 : Int), .int .i32 (0 : Int), .int .i32 (0 : Int), .int .u8 (0 : Int), .int .u8 (0 : Int), .int .u8 (0 : Int), .int .i32 (0 : Int), .int .i32 (0 : Int), .int .i32 (0 : Int), .int .i32 (0 : Int), .int .u8 (0 : Int), .int .u8 (0 : Int), .int .u8 (0 : Int), .slice none 0 0, .int .u16 (0 : Int), .int .u16 (0 : Int)], 30, (0, 0)⟩ :: (⟨b3, (pl14 p0.Players []), 25, (0, 0)⟩ :: (p0B0 ++ []))))) [8, 13, 14, 15] [14, 15] [0, 1, 3, 7, 0, 16, 48, 112, 255, 511, 1023, 1023, 2047, 6143, 16383, 32767] [0, 1, 2, 3, 4, 5, 6, 7, 8, 9, 10, 11, 12, 13, 14, 15] (by kernel_rfl) (by kernel_rfl) (by kernel_rfl) ?_))
   refine k_val rfl rfl rfl (pSub (pS (pS (pS (qS pNil))))) (sV rfl) rfl (k_val (v := .pointer (some ⟨b3, 7, none⟩)) rfl rfl rfl (pSub (pS (pS (pS (qS pNil))))) (val_ia (j := 1) tt_ok rfl rfl rfl rfl (by simpa using hx151) rfl rfl) rfl (k_val (v := .pointer (some ⟨b3, 7, none⟩)) rfl rfl rfl (pSub (pS (pS (pS (qS pNil))))) (sV rfl) rfl (k_val (v := .int .i32 p0.Players.2.X) rfl rfl rfl (pSub (pS (pS (pS (qS pNil))))) (val_load tt_ok rfl (mTT mH) rfl) rfl ?_)))
   refine k_val rfl rfl rfl (pSub (pS (pS (pS (qS pNil))))) (sV rfl) rfl (k_val (v := .pointer (some ⟨b3, 7, none⟩)) rfl rfl rfl (pSub (pS (pS (pS (qS pNil))))) (val_ia (j := 1) tt_ok rfl rfl rfl rfl (by simpa using hx151) rfl rfl) rfl (k_val (v := .pointer (some ⟨b3, 9, none⟩)) rfl rfl rfl (pSub (pS (pS (pS (qS pNil))))) (sV rfl) rfl (k_val (v := .int .i32 p0.Players.2.VX) rfl rfl rfl (pSub (pS (pS (pS (qS pNil))))) (val_load tt_ok rfl (mTT mH) rfl) rfl ?_)))
   replace h := bsome h; obtain ⟨⟨zf, zg⟩, x26, h⟩ := h; try dsimp only at h
   refine k_cq rfl rfl rfl Tryz.call98 rfl rfl rfl (q_pf (k_hindcastref07_Move x26) (fun _ _ => trivial)) rfl (pSub (pS (pS (pS (qS pNil))))) ?_
   iterate 3 refine k_val rfl rfl rfl (pSub (pS (pS (pS (qS pNil))))) (sV rfl) rfl ?_
   refine k_val (v := .pointer (some ⟨b5, 0, none⟩)) rfl rfl rfl (pSub (pS (pS (pS (qS pNil))))) (sV rfl) rfl (k_chg0 rfl rfl rfl (chg_store tt_ok rfl Upd.here rfl rfl rfl rfl rfl rfl) (.inr (by rintro _ _ rfl; exact ⟨_, (pS (pS (pS (qS pNil))))⟩)) ?_)
   rintro _ _ rfl
   refine k_chg rfl rfl rfl (Chg.of_val (v := .pointer (some ⟨b5, 2, none⟩)) (sV rfl)) rfl (.inl rfl) ?_
   rintro _ _ ⟨rfl, rfl⟩
   refine k_chg0 rfl rfl rfl (chg_store tt_ok rfl Upd.here rfl rfl rfl rfl rfl rfl) (.inl rfl) ?_
   rintro _ _ rfl
   refine k_end (by kernel_rfl) ?_
   refine wx_then (wc_seq (wc_k2 (Ls := (⟨b1, (.int .u64 p0.Frame :: .int .u64 p0.Seed :: pl14 za [.slice p0a0 p0n0 p0c0, .int .u16 p0.Score.1, .int .u16 p0.Score.2]), 30, (0, 0)⟩ :: (⟨b2, [.int .u64 (0 : Int), .int .u64 (0 : Int), .int .i32 (0 : Int), .int .i32 (0 : Int), .int .i32 (0 : Int), .int .i32 (0 : Int), .int .u8 (0 : Int), .int .u8 (0 : Int), .int .u8 (0 : Int), .int .i32 (0 : Int), .int .i32 (0 : Int), .int .i32 (0 : Int), .int .i32 (0 : Int), .int .u8 (0 : Int), .int .u8 (0 : Int), .int .u8 (0 : Int), .slice none 0 0, .int .u16 (0 : Int), .int .u16 (0 : Int)], 30, (0, 0)⟩ :: (⟨b3, (pl14 p0.Players []), 25, (0, 0)⟩ :: (p0B0 ++ []))))) [8, 13, 14, 15] [14, 15] [0, 1, 3, 7, 0, 16, 48, 112, 255, 511, 1023, 1023, 2047, 6143, 16383, 32767] [0, 1, 2, 3, 4, 5, 6, 7, 8, 9, 10, 11, 12, 13, 14, 15] (by kernel_rfl) (by kernel_rfl) (by kernel_rfl) ?_))
   refine k_val rfl rfl rfl (pSub (pS (pS (pS (qS pNil))))) (sV rfl) rfl (k_val (v := .pointer (some ⟨b3, 7, none⟩)) rfl rfl rfl (pSub (pS (pS (pS (qS pNil))))) (val_ia (j := 1) tt_ok rfl rfl rfl rfl (by simpa using hx151) rfl rfl) rfl (k_val (v := .pointer (some ⟨b3, 8, none⟩)) rfl rfl rfl (pSub (pS (pS (pS (qS pNil))))) (sV rfl) rfl (k_val (v := .int .i32 p0.Players.2.Y) rfl rfl rfl (pSub (pS (pS (pS (qS pNil))))) (val_load tt_ok rfl (mTT mH) rfl) rfl ?_)))
   refine k_val rfl rfl rfl (pSub (pS (pS (pS (qS pNil))))) (sV rfl) rfl (k_val (v := .pointer (some ⟨b3, 7, none⟩)) rfl rfl rfl (pSub (pS (pS (pS (qS pNil))))) (val_ia (j := 1) tt_ok rfl rfl rfl rfl (by simpa using hx151) rfl rfl) rfl (k_val (v := .pointer (some ⟨b3, 10, none⟩)) rfl rfl rfl (pSub (pS (pS (pS (qS pNil))))) (sV rfl) rfl (k_val (v := .int .i32 p0.Players.2.VY) rfl rfl rfl (pSub (pS (pS (pS (qS pNil))))) (val_load tt_ok rfl (mTT mH) rfl) rfl ?_)))
   replace h := bsome h; obtain ⟨⟨zh, zi⟩, x40, h⟩ := h; try dsimp only at h
   refine k_cq rfl rfl rfl Tryz.call98 rfl rfl rfl (q_pf (k_hindcastref07_Move x40) (fun _ _ => trivial)) rfl (pSub (pS (pS (pS (qS pNil))))) ?_
   iterate 3 refine k_val rfl rfl rfl (pSub (pS (pS (pS (qS pNil))))) (sV rfl) rfl ?_
   refine k_val (v := .pointer (some ⟨b5, 1, none⟩)) rfl rfl rfl (pSub (pS (pS (pS (qS pNil))))) (sV rfl) rfl (k_chg0 rfl rfl rfl (chg_store tt_ok rfl Upd.here rfl rfl rfl rfl rfl rfl) (.inr (by rintro _ _ rfl; exact ⟨_, (pS (pS (pS (qS pNil))))⟩)) ?_)
   rintro _ _ rfl
   refine k_chg rfl rfl rfl (Chg.of_val (v := .pointer (some ⟨b5, 3, none⟩)) (sV rfl)) rfl (.inl rfl) ?_
   rintro _ _ ⟨rfl, rfl⟩
   refine k_chg0 rfl rfl rfl (chg_store tt_ok rfl Upd.here rfl rfl rfl rfl rfl rfl) (.inl rfl) ?_
   rintro _ _ rfl
   refine k_end (by kernel_rfl) ?_
   refine wx_then (wc_region (wP rfl rfl (wl_val (v := .agg #[.int .i32 zf, .int .i32 zh, .int .i32 zg, .int .i32 zi, .int .u8 za.2.Health, .int .u8 za.2.Cool, .int .u8 za.2.Face]) (val_load tt_ok rfl mH rfl) rfl (wP (v := .pointer (some ⟨b1, 2, none⟩)) rfl rfl (wl_val (v := .pointer (some ⟨b1, 9, none⟩)) (val_ia (j := 1) tt_ok rfl rfl rfl rfl (by simpa using hx151) rfl rfl) rfl ?_)))))
   apply wl_store tt_ok; rfl; exact (Upd.there Upd.here); rfl; rfl; rfl; rfl; rfl; rfl
   refine wl_nil (wx_block (wx_then (wc_region (wP rfl rfl (wP (v := .int .i64 (IntKind.wrap .i64 (ze + (1 : Int)))) rfl rfl (wP rfl rfl (wl_nil ?_)))))))
   exact wx_round m9 (Nat.lt_succ_self m9) ⟨(IntKind.wrap .i64 (ze + (1 : Int))), (za.1, (T_api_Player.mk zf zh zg zi za.2.Health za.2.Cool za.2.Face)), h, rfl, rfl⟩ (agree_cons rfl (agree_cons rfl (agree_cons rfl (agree_cons rfl agree_nil)))) (pSub (pS (pS (pS (qS pNil)))))
  replace h := cf hx151 h
  cases h
 replace h := cf hc h
 refine wc_exit (wx_then_exit ?_)
 obtain rfl := sI h
 have h := hl9; clear hl9; try dsimp only [orE_l, orE_r] at h
 refine wx_then_exit (wx_block_exit (wx_then (wc_seq (wc_seq ?_))))
 refine wc_quiet (by kernel_rfl) (by kernel_rfl) ?_
 refine qP (v := .pointer (some ⟨b1, 2, none⟩)) rfl rfl (wq_val (v := .pointer (some ⟨b1, 2, none⟩)) (val_ia (j := 0) tt_ok rfl rfl rfl rfl rfl rfl rfl) rfl (wq_val (v := agP za.1) (val_load tt_ok rfl mH rfl) rfl ?_))
 obtain ⟨v52, x52, h⟩ := bsome h
 refine wq_cq Tryz.call100 rfl rfl rfl (q_pf (k_hindcastref09_Box x52) (fun _ _ => trivial)) rfl ?_
 refine qP (v := .pointer (some ⟨b1, 2, none⟩)) rfl rfl (wq_val (v := .pointer (some ⟨b1, 9, none⟩)) (val_ia (j := 1) tt_ok rfl rfl rfl rfl rfl rfl rfl) rfl (wq_val (v := agP za.2) (val_load tt_ok rfl mH rfl) rfl ?_))
 obtain ⟨v56, x56, h⟩ := bsome h
 refine wq_cq Tryz.call100 rfl rfl rfl (q_pf (k_hindcastref09_Box x56) (fun _ _ => trivial)) rfl ?_
 obtain ⟨v57, x57, h⟩ := bsome h
 refine wq_cq Tryz.call99 rfl rfl rfl (q_pf (k_hindcastref07_Over x57) (fun _ _ => trivial)) rfl ?_
 refine wq_nil (wx_then ?_)
 obtain ⟨zb, h, hj29⟩ := bsome h
 refine wc_join2 (fun E L => E = [(1, .pointer (some ⟨b1, 0, none⟩)), (2, .pointer (some ⟨b2, 0, none⟩))] ∧ L = (⟨b1, (.int .u64 p0.Frame :: .int .u64 p0.Seed :: pl14 zb [.slice p0a0 p0n0 p0c0, .int .u16 p0.Score.1, .int .u16 p0.Score.2]), 30, (0, 0)⟩ :: (⟨b2, [.int .u64 (0 : Int), .int .u64 (0 : Int), .int .i32 (0 : Int), .int .i32 (0 : Int), .int .i32 (0 : Int), .int .i32 (0 : Int), .int .u8 (0 : Int), .int .u8 (0 : Int), .int .u8 (0 : Int), .int .i32 (0 : Int), .int .i32 (0 : Int), .int .i32 (0 : Int), .int .i32 (0 : Int), .int .u8 (0 : Int), .int .u8 (0 : Int), .int .u8 (0 : Int), .slice none 0 0, .int .u16 (0 : Int), .int .u16 (0 : Int)], 30, (0, 0)⟩ :: (p0B0 ++ [])))) ?_ ?_
 ·refine wc_cond rfl (fun hc => ?_) (fun hc => ?_)
  ·replace h := ct hc h
   refine wSR (wl_val (v := .agg #[.int .i32 p0.Players.1.X, .int .i32 p0.Players.1.Y, .int .i32 p0.Players.1.VX, .int .i32 p0.Players.1.VY, .int .u8 p0.Players.1.Health, .int .u8 p0.Players.1.Cool, .int .u8 p0.Players.1.Face, .int .i32 p0.Players.2.X, .int .i32 p0.Players.2.Y, .int .i32 p0.Players.2.VX, .int .i32 p0.Players.2.VY, .int .u8 p0.Players.2.Health, .int .u8 p0.Players.2.Cool, .int .u8 p0.Players.2.Face]) (val_load tt_ok rfl (mTT mH) rfl) rfl (wP (v := .pointer (some ⟨b1, 2, none⟩)) rfl rfl ?_))
   apply wl_store tt_ok; rfl; exact Upd.here; rfl; rfl; rfl; rfl; rfl; rfl
   refine wNT (wSR (wP rfl rfl (wNT (wc_block ?_))))
   obtain ⟨zj, h, hl35⟩ := bsome h
   refine wc_loop (fun m E L => ∃ (zd : Int) (zc : (T_api_Player × T_api_Player)), m_hindcastref09_three_o0_L34 F m zd zc = some zj ∧ E = [(1, .pointer (some ⟨b1, 0, none⟩)), (2, .pointer (some ⟨b2, 0, none⟩)), (6, .int .i64 zd)] ∧ L = (⟨b1, (.int .u64 p0.Frame :: .int .u64 p0.Seed :: pl14 zc [.slice p0a0 p0n0 p0c0, .int .u16 p0.Score.1, .int .u16 p0.Score.2]), 30, (0, 0)⟩ :: (⟨b2, [.int .u64 (0 : Int), .int .u64 (0 : Int), .int .i32 (0 : Int), .int .i32 (0 : Int), .int .i32 (0 : Int), .int .i32 (0 : Int), .int .u8 (0 : Int), .int .u8 (0 : Int), .int .u8 (0 : Int), .int .i32 (0 : Int), .int .i32 (0 : Int), .int .i32 (0 : Int), .int .i32 (0 : Int), .int .u8 (0 : Int), .int .u8 (0 : Int), .int .u8 (0 : Int), .slice none 0 0, .int .u16 (0 : Int), .int .u16 (0 : Int)], 30, (0, 0)⟩ :: (p0B0 ++ [])))) F ⟨(0 : Int), p0.Players, h, rfl, rfl⟩ (agree_cons rfl (agree_cons rfl (agree_cons rfl agree_nil))) (pSub (pHH (qS pNil))) ?_
   clear h
   rintro m35 _ _ ⟨zd, zc, h, rfl, rfl⟩
   rcases m35 with _ | m35
   ·rw [m_hindcastref09_three_o0_L34.eq_1] at h; cases h
   rw [m_hindcastref09_three_o0_L34.eq_2] at h
   refine wc_seq (wSR (wP rfl rfl (wP (v := .bool (decide (zd < (2 : Int)))) rfl rfl (wNT (wc_cond rfl (fun hc => ?_) (fun hc => ?_))))))
   ·replace h := ct hc h
    refine wc_skip (wx_then (wc_seq (wc_block (wSR (wP rfl rfl (wP (v := .pointer (some ⟨b1, 2, none⟩)) rfl rfl ?_))))))
    rcases Bool.eq_false_or_eq_true (zd == (0 : Int)) with hx660 | hx660
    ·replace h := ct hx660 h
     refine wl_val (v := .pointer (some ⟨b1, 2, none⟩)) (val_ia (j := 0) tt_ok rfl rfl rfl rfl (by simpa using hx660) rfl rfl) rfl ?_
     refine wP (v := .pointer (some ⟨b1, 4, none⟩)) rfl rfl ?_
     apply wl_store tt_ok; rfl; exact Upd.here; rfl; rfl; rfl; rfl; rfl; rfl
     refine wNT (wc_region (wP rfl rfl (wP (v := .pointer (some ⟨b1, 2, none⟩)) rfl rfl (wl_val (v := .pointer (some ⟨b1, 2, none⟩)) (val_ia (j := 0) tt_ok rfl rfl rfl rfl (by simpa using hx660) rfl rfl) rfl (wP (v := .pointer (some ⟨b1, 5, none⟩)) rfl rfl ?_)))))
     apply wl_store tt_ok; rfl; exact Upd.here; rfl; rfl; rfl; rfl; rfl; rfl
     refine wl_nil (wx_block (wx_then (wc_region (wP rfl rfl (wP (v := .int .i64 (IntKind.wrap .i64 (zd + (1 : Int)))) rfl rfl (wP rfl rfl (wl_nil ?_)))))))
     exact wx_round m35 (Nat.lt_succ_self m35) ⟨(IntKind.wrap .i64 (zd + (1 : Int))), ((T_api_Player.mk zc.1.X zc.1.Y (0 : Int) (0 : Int) zc.1.Health zc.1.Cool zc.1.Face), zc.2), h, rfl, rfl⟩ (agree_cons rfl (agree_cons rfl (agree_cons rfl agree_nil))) (pSub (pHH (pA pNil)))
    replace h := cf hx660 h
    rcases Bool.eq_false_or_eq_true (zd == (1 : Int)) with hx661 | hx661
    ·replace h := ct hx661 h
     refine wl_val (v := .pointer (some ⟨b1, 9, none⟩)) (val_ia (j := 1) tt_ok rfl rfl rfl rfl (by simpa using hx661) rfl rfl) rfl ?_
     refine wP (v := .pointer (some ⟨b1, 11, none⟩)) rfl rfl ?_
     apply wl_store tt_ok; rfl; exact Upd.here; rfl; rfl; rfl; rfl; rfl; rfl
     refine wNT (wc_region (wP rfl rfl (wP (v := .pointer (some ⟨b1, 2, none⟩)) rfl rfl (wl_val (v := .pointer (some ⟨b1, 9, none⟩)) (val_ia (j := 1) tt_ok rfl rfl rfl rfl (by simpa using hx661) rfl rfl) rfl (wP (v := .pointer (some ⟨b1, 12, none⟩)) rfl rfl ?_)))))
     apply wl_store tt_ok; rfl; exact Upd.here; rfl; rfl; rfl; rfl; rfl; rfl
     refine wl_nil (wx_block (wx_then (wc_region (wP rfl rfl (wP (v := .int .i64 (IntKind.wrap .i64 (zd + (1 : Int)))) rfl rfl (wP rfl rfl (wl_nil ?_)))))))
     exact wx_round m35 (Nat.lt_succ_self m35) ⟨(IntKind.wrap .i64 (zd + (1 : Int))), (zc.1, (T_api_Player.mk zc.2.X zc.2.Y (0 : Int) (0 : Int) zc.2.Health zc.2.Cool zc.2.Face)), h, rfl, rfl⟩ (agree_cons rfl (agree_cons rfl (agree_cons rfl agree_nil))) (pSub (pHH (pA pNil)))
    replace h := cf hx661 h
    cases h
   replace h := cf hc h
   refine wc_exit (wx_then_exit ?_)
   obtain rfl := sI h
   have h := hl35; clear hl35; try dsimp only [orE_l, orE_r] at h
   refine wx_then_exit (wx_block_exit ?_)
   obtain rfl := sI h
   exact wx_join ⟨rfl, rfl⟩ (agree_cons rfl (agree_cons rfl agree_nil)) (pSub (pHH (pA pNil)))
  replace h := cf hc h
  refine wc_skip ?_
  obtain rfl := sI h
  exact wx_join ⟨rfl, rfl⟩ (agree_cons rfl (agree_cons rfl agree_nil)) (pSub (pHH (qS pNil)))
 rintro _ _ ⟨rfl, rfl⟩
 have h := hj29; clear hj29
 refine wSR (wl_val (v := .agg #[.int .u64 p0.Frame, .int .u64 p0.Seed, .int .i32 zb.1.X, .int .i32 zb.1.Y, .int .i32 zb.1.VX, .int .i32 zb.1.VY, .int .u8 zb.1.Health, .int .u8 zb.1.Cool, .int .u8 zb.1.Face, .int .i32 zb.2.X, .int .i32 zb.2.Y, .int .i32 zb.2.VX, .int .i32 zb.2.VY, .int .u8 zb.2.Health, .int .u8 zb.2.Cool, .int .u8 zb.2.Face, .slice p0a0 p0n0 p0c0, .int .u16 p0.Score.1, .int .u16 p0.Score.2]) (val_load tt_ok rfl mH rfl) rfl ?_)
 apply wl_store tt_ok; rfl; exact (Upd.there Upd.here); rfl; rfl; rfl; rfl; rfl; rfl
 refine wNT (wc_ret ?_)
 obtain rfl := sI h
 exact wx_spD tt_ok (.inl rfl) Tryz.results77 (Res.cell rfl (mT mH) rfl Res.nil) ⟨p0a0, p0n0, p0c0, p0B0, p0N0, p0V0, rfl, rfl⟩ (fun F => by simp) (pSub (pApp (sCC hA') pNil))

theorem k_hindcastref07_Inside {F : Nat} {p0 : T_api_Box} {p1 : T_api_Box} {r0 : Bool} (h : m_hindcastref07_Inside F p0 p1 = some r0) :
    Pf Tryz.prog 101 [.agg #[.int .i32 p0.X, .int .i32 p0.Y, .int .i32 p0.W, .int .i32 p0.H], .agg #[.int .i32 p1.X, .int .i32 p1.Y, .int .i32 p1.W, .int .i32 p1.H]] (fun w => True) (.bool r0) := by
 unfold m_hindcastref07_Inside at h
 refine pf_of_wc Tryz.func101 rfl Tryz.ntmps101 rfl rfl (fun w0 hR => ?_)
 refine wSR (wl_box rfl rfl rfl (fun b2 => (wl_box rfl rfl rfl (fun b3 => (wP rfl rfl (wNT (wc_seq (wc_quiet (by kernel_rfl) (by kernel_rfl) (qP (v := .pointer (some ⟨b2, 0, none⟩)) rfl rfl (wq_val (v := .int .i32 p0.X) (val_load tt_ok rfl (mT mH) rfl) rfl (qP (v := .int .i64 (IntKind.wrap .i64 p0.X)) rfl rfl (qP (v := .pointer (some ⟨b2, 1, none⟩)) rfl rfl (wq_val (v := .int .i32 p0.Y) (val_load tt_ok rfl (mT mH) rfl) rfl (qP (v := .int .i64 (IntKind.wrap .i64 p0.Y)) rfl rfl ?_))))))))))))))
 iterate 2 refine qP rfl rfl ?_
 refine wq_nil (wx_then (wSR (wP (v := .pointer (some ⟨b2, 2, none⟩)) rfl rfl (wl_val (v := .int .i32 p0.W) (val_load tt_ok rfl (mT mH) rfl) rfl (wP (v := .bool (decide ((0 : Int) < p0.W))) rfl rfl (wP rfl rfl ?_))))))
 obtain ⟨v20, h, hg20⟩ := bsome h
 refine wl_split (t := 16) rfl (fun hc => ?_) (fun hc => ?_)
 ·replace h := ct hc h
  refine wl_run rfl (wP (v := .pointer (some ⟨b2, 3, none⟩)) rfl rfl (wl_run rfl (wl_val (v := .int .i32 p0.H) (val_load tt_ok rfl (mT mH) rfl) rfl (wl_run rfl (wP (v := .bool (decide ((0 : Int) < p0.H))) rfl rfl ?_)))))
  obtain rfl := sI h
  have h := hg20; clear hg20
  refine wP (v := .bool (decide ((0 : Int) < p0.H))) rfl rfl (wP rfl rfl ?_)
  obtain ⟨v26, h, hg26⟩ := bsome h
  refine wl_split (t := 21) rfl (fun hc => ?_) (fun hc => ?_)
  ·replace h := ct hc h
   refine wl_run rfl (wl_val (v := .agg #[.int .i32 p1.X, .int .i32 p1.Y, .int .i32 p1.W, .int .i32 p1.H]) (val_load tt_ok rfl mH rfl) rfl (wl_run rfl (wP rfl rfl (wl_run rfl (wP rfl rfl ?_)))))
   obtain ⟨v25, x25, h⟩ := bsome h
   refine wl_run rfl (wl_cq Tryz.call110 rfl rfl rfl (q_pf (k_hindcastref07_Has x25) (fun _ _ => trivial)) rfl ?_)
   obtain rfl := sI h
   have h := hg26; clear hg26
   refine wP (v := .bool v25) rfl rfl (wP rfl rfl ?_)
   obtain ⟨v42, h, hg42⟩ := bsome h
   refine wl_split (t := 27) rfl (fun hc => ?_) (fun hc => ?_)
   ·replace h := ct hc h
    refine wl_run rfl (wl_val (v := .agg #[.int .i32 p1.X, .int .i32 p1.Y, .int .i32 p1.W, .int .i32 p1.H]) (val_load tt_ok rfl mH rfl) rfl (wl_run rfl (wP rfl rfl (wl_run rfl (wP (v := .pointer (some ⟨b2, 2, none⟩)) rfl rfl (wl_run rfl (wl_val (v := .int .i32 p0.W) (val_load tt_ok rfl (mT mH) rfl) rfl (wl_run rfl (wP (v := .int .i64 (IntKind.wrap .i64 p0.W)) rfl rfl (wl_run rfl (wP (v := .int .i64 (IntKind.wrap .i64 ((IntKind.wrap .i64 p0.X) + (IntKind.wrap .i64 p0.W)))) rfl rfl (wl_run rfl (wP (v := .int .i64 (IntKind.wrap .i64 ((IntKind.wrap .i64 ((IntKind.wrap .i64 p0.X) + (IntKind.wrap .i64 p0.W))) - (1 : Int)))) rfl rfl ?_)))))))))))))
    refine wl_run rfl (wP rfl rfl (wl_run rfl (wP (v := .pointer (some ⟨b2, 3, none⟩)) rfl rfl (wl_run rfl (wl_val (v := .int .i32 p0.H) (val_load tt_ok rfl (mT mH) rfl) rfl (wl_run rfl (wP (v := .int .i64 (IntKind.wrap .i64 p0.H)) rfl rfl (wl_run rfl (wP (v := .int .i64 (IntKind.wrap .i64 ((IntKind.wrap .i64 p0.Y) + (IntKind.wrap .i64 p0.H)))) rfl rfl (wl_run rfl (wP (v := .int .i64 (IntKind.wrap .i64 ((IntKind.wrap .i64 ((IntKind.wrap .i64 p0.Y) + (IntKind.wrap .i64 p0.H))) - (1 : Int)))) rfl rfl ?_)))))))))))
    obtain ⟨v41, x41, h⟩ := bsome h
    refine wl_run rfl (wl_cq Tryz.call110 rfl rfl rfl (q_pf (k_hindcastref07_Has x41) (fun _ _ => trivial)) rfl ?_)
    obtain rfl := sI h
    have h := hg42; clear hg42
    refine wP (v := .bool v41) rfl rfl (wP rfl rfl (wNT (wc_ret ?_)))
    obtain rfl := sI h
    exact wx_pf tt_ok (.inl rfl) Tryz.results101 (Res.tmp rfl Res.nil) rfl
   replace h := cf hc h
   iterate 14 refine wl_skip rfl rfl ?_
   obtain rfl := sI h
   have h := hg42; clear hg42
   refine wP (v := .bool false) rfl rfl (wP rfl rfl (wNT (wc_ret ?_)))
   obtain rfl := sI h
   exact wx_pf tt_ok (.inl rfl) Tryz.results101 (Res.tmp rfl Res.nil) rfl
  replace h := cf hc h
  iterate 4 refine wl_skip rfl rfl ?_
  obtain rfl := sI h
  have h := hg26; clear hg26
  refine wP (v := .bool false) rfl rfl (wP rfl rfl ?_)
  obtain ⟨v42, h, hg42⟩ := bsome h
  replace h := cf rfl h
  iterate 14 refine wl_skip rfl rfl ?_
  obtain rfl := sI h
  have h := hg42; clear hg42
  refine wP (v := .bool false) rfl rfl (wP rfl rfl (wNT (wc_ret ?_)))
  obtain rfl := sI h
  exact wx_pf tt_ok (.inl rfl) Tryz.results101 (Res.tmp rfl Res.nil) rfl
 replace h := cf hc h
 iterate 3 refine wl_skip rfl rfl ?_
 obtain rfl := sI h
 have h := hg20; clear hg20
 refine wP (v := .bool false) rfl rfl (wP rfl rfl ?_)
 obtain ⟨v26, h, hg26⟩ := bsome h
 replace h := cf rfl h
 iterate 4 refine wl_skip rfl rfl ?_
 obtain rfl := sI h
 have h := hg26; clear hg26
 refine wP (v := .bool false) rfl rfl (wP rfl rfl ?_)
 obtain ⟨v42, h, hg42⟩ := bsome h
 replace h := cf rfl h
 iterate 14 refine wl_skip rfl rfl ?_
 obtain rfl := sI h
 have h := hg42; clear hg42
 refine wP (v := .bool false) rfl rfl (wP rfl rfl (wNT (wc_ret ?_)))
 obtain rfl := sI h
 exact wx_pf tt_ok (.inl rfl) Tryz.results101 (Res.tmp rfl Res.nil) rfl

end Go.Proofs.YtkekgagekgadmaaGreatDoor
