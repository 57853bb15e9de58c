/-
  Each function computes what its model says. Printed by a program of this claim's own.
-/
import Derived.Test.YtekplmhmppdpcaaDoorTab
import Derived.Test.YtekplmhmppdpcaaDoorMod
import Derived.Test.YtekplmhmppdpcaaDoorWalk1
import Derived.Test.YtekplmhmppdpcaaDoorEng6
namespace Go.Proofs.YtekplmhmppdpcaaDoor
open Go.Proofs.YtekplmhmppdpcaaDoor.Eng
set_option linter.unusedVariables false
set_option linter.unusedSimpArgs false
set_option maxHeartbeats 4000000
set_option maxRecDepth 20000

theorem k_hindcastlaw08_StateKnown {F : Nat} {r0 : Bool} (h : m_hindcastlaw08_StateKnown F = some r0) :
    Pf Tryd.prog 7 [] (fun w => Rds w [] [] (some ⟨0, 0, none⟩) (flat (fun _ : Unit => gl_state_playerBounds) [()]) ∧ Rds w [] [] (some ⟨1, 0, none⟩) (flat (fun _ : Unit => gl_state_shotBounds) [()])) (.bool r0) := by
 unfold m_hindcastlaw08_StateKnown at h
 refine pf_of_wc Tryd.func7 rfl Tryd.ntmps7 rfl rfl (fun w0 hR => ?_)
 obtain ⟨G0S, G1S⟩ := hR
 refine wSR (wP rfl rfl (wNT (wSR ?_)))
 obtain ⟨v9, x9, h⟩ := bsome h
 refine wl_cs Tryd.call16 rfl rfl rfl (s_sp (k_state_Start x9) pNil (fun _ _ => trivial)) rfl ?_
 rintro _ _ ⟨_, ⟨v9a0, v9n0, v9c0, v9B0, v9N0, v9V0, rfl, rfl⟩, rfl⟩
 obtain ⟨v10, x10, h⟩ := bsome h
 refine wl_cq Tryd.call13 rfl rfl rfl (q_pf (k_state_Put (p0 := v9) v9N0 (vec_cap v9V0) x10) (fun w hI => ⟨(Rds.call (Rds.of_vec v9V0) pNil ⟨_, hA'⟩) w hI, (Rds.call G0S pNil rsub_nil) w hI, (Rds.call G1S pNil rsub_nil) w hI⟩)) rfl ?_
 refine wP rfl rfl (wNT (wc_seq (wc_seq (wc_k2 (Ls := (v9B0 ++ [])) [0, 10, 16, 30, 34, 35] [] [0, 1, 3, 7, 15, 31, 63, 127, 255, 511, 1023, 2047, 4095, 8191, 16383, 32767, 65535, 131071, 262143, 524287, 1048575, 2097151, 4194303, 1048575, 9437183, 33554431, 67108863, 1048575, 135266303, 536870911, 1073741823, 2147483647, 4294967295, 8589934591, 17179869183, 34359738367, 68719476735, 137438953471] [0, 1, 2, 3, 4, 5, 6, 7, 8, 9, 10, 11, 12, 13, 14, 15, 16, 17, 18, 19, 20, 21, 22, 23, 24, 25, 26, 27, 28, 29, 30, 31, 32, 33, 34, 35, 36, 37] (by kernel_rfl) (by kernel_rfl) (by kernel_rfl) ?_))))
 obtain ⟨v11, x11, h⟩ := bsome h
 refine k_cq rfl rfl rfl Tryd.call9 rfl rfl rfl (q_pf (k_hindcastlaw08_works x11) (fun w hI => ⟨(Rds.call G0S pNil rsub_nil) w hI, (Rds.call G1S pNil rsub_nil) w hI⟩)) rfl (pSub (pA pNil)) ?_
 refine k_val (v := .bool (!v11)) rfl rfl rfl (pSub (pA pNil)) (sV rfl) rfl (k_val rfl rfl rfl (pSub (pA pNil)) (sV rfl) rfl ?_)
 obtain ⟨v17, h, hg17⟩ := bsome h
 refine k_split (t := 13) rfl (fun hc => ?_) (fun hc => ?_)
 ·replace h := ct hc h
  iterate 3 refine k_skip rfl rfl (pSub (pA pNil)) rfl ?_
  obtain rfl := sI h
  have h := hg17; clear hg17
  refine k_val (v := .bool true) rfl rfl rfl (pSub (pA pNil)) (sV rfl) rfl (k_val rfl rfl rfl (pSub (pA pNil)) (sV rfl) rfl ?_)
  obtain ⟨v23, h, hg23⟩ := bsome h
  replace h := ct rfl h
  iterate 4 refine k_skip rfl rfl (pSub (pA pNil)) rfl ?_
  obtain rfl := sI h
  have h := hg23; clear hg23
  refine k_val (v := .bool true) rfl rfl rfl (pSub (pA pNil)) (sV rfl) rfl (k_val rfl rfl rfl (pSub (pA pNil)) (sV rfl) rfl ?_)
  obtain ⟨v29, h, hg29⟩ := bsome h
  replace h := ct rfl h
  iterate 4 refine k_skip rfl rfl (pSub (pA pNil)) rfl ?_
  obtain rfl := sI h
  have h := hg29; clear hg29
  refine k_val (v := .bool true) rfl rfl rfl (pSub (pA pNil)) (sV rfl) rfl (k_val rfl rfl rfl (pSub (pA pNil)) (sV rfl) rfl ?_)
  obtain ⟨v43, h, hg43⟩ := bsome h
  replace h := ct rfl h
  iterate 12 refine k_skip rfl rfl (pSub (pA pNil)) rfl ?_
  obtain rfl := sI h
  have h := hg43; clear hg43
  refine k_val (v := .bool true) rfl rfl rfl (pSub (pA pNil)) (sV rfl) rfl (k_val rfl rfl rfl (pSub (pA pNil)) (sV rfl) rfl ?_)
  obtain ⟨v48, h, hg48⟩ := bsome h
  replace h := ct rfl h
  iterate 3 refine k_skip rfl rfl (pSub (pA pNil)) rfl ?_
  obtain rfl := sI h
  have h := hg48; clear hg48
  refine k_val (v := .bool true) rfl rfl rfl (pSub (pA pNil)) (sV rfl) rfl (k_end (by kernel_rfl) (wx_then ?_))
  replace h := ct rfl h
  refine wc_cond_true rfl ?_
  refine wSR (wP rfl rfl (wNT (wc_ret (wx_then_ret ?_))))
  obtain rfl := sI h
  exact wx_pf tt_ok (.inl rfl) Tryd.results7 (Res.tmp rfl Res.nil) rfl
 replace h := cf hc h
 refine k_val rfl rfl rfl (pSub (pA pNil)) (sV rfl) rfl (k_val (v := .int .i64 (v10.length : Int)) rfl rfl rfl (pSub (pA pNil)) (sV rfl) rfl (k_val (v := .bool ((v10.length : Int) != (59 : Int))) rfl rfl rfl (pSub (pA pNil)) (sV rfl) rfl ?_))
 obtain rfl := sI h
 have h := hg17; clear hg17
 refine k_val (v := .bool ((v10.length : Int) != (59 : Int))) rfl rfl rfl (pSub (pA pNil)) (sV rfl) rfl (k_val rfl rfl rfl (pSub (pA pNil)) (sV rfl) rfl ?_)
 obtain ⟨v23, h, hg23⟩ := bsome h
 refine k_split (t := 18) rfl (fun hc => ?_) (fun hc => ?_)
 ·replace h := ct hc h
  iterate 4 refine k_skip rfl rfl (pSub (pA pNil)) rfl ?_
  obtain rfl := sI h
  have h := hg23; clear hg23
  refine k_val (v := .bool true) rfl rfl rfl (pSub (pA pNil)) (sV rfl) rfl (k_val rfl rfl rfl (pSub (pA pNil)) (sV rfl) rfl ?_)
  obtain ⟨v29, h, hg29⟩ := bsome h
  replace h := ct rfl h
  iterate 4 refine k_skip rfl rfl (pSub (pA pNil)) rfl ?_
  obtain rfl := sI h
  have h := hg29; clear hg29
  refine k_val (v := .bool true) rfl rfl rfl (pSub (pA pNil)) (sV rfl) rfl (k_val rfl rfl rfl (pSub (pA pNil)) (sV rfl) rfl ?_)
  obtain ⟨v43, h, hg43⟩ := bsome h
  replace h := ct rfl h
  iterate 12 refine k_skip rfl rfl (pSub (pA pNil)) rfl ?_
  obtain rfl := sI h
  have h := hg43; clear hg43
  refine k_val (v := .bool true) rfl rfl rfl (pSub (pA pNil)) (sV rfl) rfl (k_val rfl rfl rfl (pSub (pA pNil)) (sV rfl) rfl ?_)
  obtain ⟨v48, h, hg48⟩ := bsome h
  replace h := ct rfl h
  iterate 3 refine k_skip rfl rfl (pSub (pA pNil)) rfl ?_
  obtain rfl := sI h
  have h := hg48; clear hg48
  refine k_val (v := .bool true) rfl rfl rfl (pSub (pA pNil)) (sV rfl) rfl (k_end (by kernel_rfl) (wx_then ?_))
  replace h := ct rfl h
  refine wc_cond_true rfl ?_
  refine wSR (wP rfl rfl (wNT (wc_ret (wx_then_ret ?_))))
  obtain rfl := sI h
  exact wx_pf tt_ok (.inl rfl) Tryd.results7 (Res.tmp rfl Res.nil) rfl
 replace h := cf hc h
 refine k_val rfl rfl rfl (pSub (pA pNil)) (sV rfl) rfl ?_
 obtain ⟨v20, x20, h⟩ := bsome h
 refine k_val (v := .string ⟨v20.toArray⟩) rfl rfl rfl (pSub (pA pNil)) (val_ss tt_ok rfl rfl (.inl ⟨rfl, rfl⟩) (.inr ⟨_, _, rfl, rfl⟩) x20) rfl ?_
 obtain ⟨v21, x21, h⟩ := bsome h
 refine k_cq rfl rfl rfl Tryd.call22 rfl rfl rfl (q_pf (k_hindcastlaw08_fails x21) (fun w hI => ⟨(Rds.call G0S pNil rsub_nil) w hI, (Rds.call G1S pNil rsub_nil) w hI⟩)) rfl (pSub (pA pNil)) ?_
 refine k_val (v := .bool (!v21)) rfl rfl rfl (pSub (pA pNil)) (sV rfl) rfl ?_
 obtain rfl := sI h
 have h := hg23; clear hg23
 refine k_val (v := .bool (!v21)) rfl rfl rfl (pSub (pA pNil)) (sV rfl) rfl (k_val rfl rfl rfl (pSub (pA pNil)) (sV rfl) rfl ?_)
 obtain ⟨v29, h, hg29⟩ := bsome h
 refine k_split (t := 24) rfl (fun hc => ?_) (fun hc => ?_)
 ·replace h := ct hc h
  iterate 4 refine k_skip rfl rfl (pSub (pA pNil)) rfl ?_
  obtain rfl := sI h
  have h := hg29; clear hg29
  refine k_val (v := .bool true) rfl rfl rfl (pSub (pA pNil)) (sV rfl) rfl (k_val rfl rfl rfl (pSub (pA pNil)) (sV rfl) rfl ?_)
  obtain ⟨v43, h, hg43⟩ := bsome h
  replace h := ct rfl h
  iterate 12 refine k_skip rfl rfl (pSub (pA pNil)) rfl ?_
  obtain rfl := sI h
  have h := hg43; clear hg43
  refine k_val (v := .bool true) rfl rfl rfl (pSub (pA pNil)) (sV rfl) rfl (k_val rfl rfl rfl (pSub (pA pNil)) (sV rfl) rfl ?_)
  obtain ⟨v48, h, hg48⟩ := bsome h
  replace h := ct rfl h
  iterate 3 refine k_skip rfl rfl (pSub (pA pNil)) rfl ?_
  obtain rfl := sI h
  have h := hg48; clear hg48
  refine k_val (v := .bool true) rfl rfl rfl (pSub (pA pNil)) (sV rfl) rfl (k_end (by kernel_rfl) (wx_then ?_))
  replace h := ct rfl h
  refine wc_cond_true rfl ?_
  refine wSR (wP rfl rfl (wNT (wc_ret (wx_then_ret ?_))))
  obtain rfl := sI h
  exact wx_pf tt_ok (.inl rfl) Tryd.results7 (Res.tmp rfl Res.nil) rfl
 replace h := cf hc h
 refine k_val rfl rfl rfl (pSub (pA pNil)) (sV rfl) rfl ?_
 obtain ⟨v26, x26, h⟩ := bsome h
 refine k_val (v := .string ⟨v26.toArray⟩) rfl rfl rfl (pSub (pA pNil)) (val_cat tt_ok rfl rfl x26) rfl ?_
 obtain ⟨v27, x27, h⟩ := bsome h
 refine k_cq rfl rfl rfl Tryd.call22 rfl rfl rfl (q_pf (k_hindcastlaw08_fails x27) (fun w hI => ⟨(Rds.call G0S pNil rsub_nil) w hI, (Rds.call G1S pNil rsub_nil) w hI⟩)) rfl (pSub (pA pNil)) ?_
 refine k_val (v := .bool (!v27)) rfl rfl rfl (pSub (pA pNil)) (sV rfl) rfl ?_
 obtain rfl := sI h
 have h := hg29; clear hg29
 refine k_val (v := .bool (!v27)) rfl rfl rfl (pSub (pA pNil)) (sV rfl) rfl (k_val rfl rfl rfl (pSub (pA pNil)) (sV rfl) rfl ?_)
 obtain ⟨v43, h, hg43⟩ := bsome h
 refine k_split (t := 30) rfl (fun hc => ?_) (fun hc => ?_)
 ·replace h := ct hc h
  iterate 12 refine k_skip rfl rfl (pSub (pA pNil)) rfl ?_
  obtain rfl := sI h
  have h := hg43; clear hg43
  refine k_val (v := .bool true) rfl rfl rfl (pSub (pA pNil)) (sV rfl) rfl (k_val rfl rfl rfl (pSub (pA pNil)) (sV rfl) rfl ?_)
  obtain ⟨v48, h, hg48⟩ := bsome h
  replace h := ct rfl h
  iterate 3 refine k_skip rfl rfl (pSub (pA pNil)) rfl ?_
  obtain rfl := sI h
  have h := hg48; clear hg48
  refine k_val (v := .bool true) rfl rfl rfl (pSub (pA pNil)) (sV rfl) rfl (k_end (by kernel_rfl) (wx_then ?_))
  replace h := ct rfl h
  refine wc_cond_true rfl ?_
  refine wSR (wP rfl rfl (wNT (wc_ret (wx_then_ret ?_))))
  obtain rfl := sI h
  exact wx_pf tt_ok (.inl rfl) Tryd.results7 (Res.tmp rfl Res.nil) rfl
 replace h := cf hc h
 refine k_val rfl rfl rfl (pSub (pA pNil)) (sV rfl) rfl ?_
 obtain ⟨v32, x32, h⟩ := bsome h
 refine k_val (v := .string ⟨v32.toArray⟩) rfl rfl rfl (pSub (pA pNil)) (val_ss tt_ok rfl rfl (.inl ⟨rfl, rfl⟩) (.inr ⟨_, _, rfl, rfl⟩) x32) rfl ?_
 obtain ⟨v33, x33, h⟩ := bsome h
 refine k_val (v := .string ⟨v33.toArray⟩) rfl rfl rfl (pSub (pA pNil)) (val_cat tt_ok rfl rfl x33) rfl (k_val rfl rfl rfl (pSub (pA pNil)) (sV rfl) rfl ?_)
 obtain ⟨v35, x35, h⟩ := bsome h
 refine k_val (v := .string ⟨v35.toArray⟩) rfl rfl rfl (pSub (pA pNil)) (val_ss tt_ok rfl rfl (.inr ⟨_, _, rfl, rfl⟩) (.inr ⟨_, _, rfl, rfl⟩) x35) rfl ?_
 obtain ⟨v36, x36, h⟩ := bsome h
 refine k_val (v := .string ⟨v36.toArray⟩) rfl rfl rfl (pSub (pA pNil)) (val_cat tt_ok rfl rfl x36) rfl ?_
 obtain ⟨v37, x37, h⟩ := bsome h
 refine k_val (v := .string ⟨v37.toArray⟩) rfl rfl rfl (pSub (pA pNil)) (val_cat tt_ok rfl rfl x37) rfl (k_val rfl rfl rfl (pSub (pA pNil)) (sV rfl) rfl ?_)
 obtain ⟨v39, x39, h⟩ := bsome h
 refine k_val (v := .string ⟨v39.toArray⟩) rfl rfl rfl (pSub (pA pNil)) (val_ss tt_ok rfl rfl (.inr ⟨_, _, rfl, rfl⟩) (.inl ⟨rfl, rfl⟩) x39) rfl ?_
 obtain ⟨v40, x40, h⟩ := bsome h
 refine k_val (v := .string ⟨v40.toArray⟩) rfl rfl rfl (pSub (pA pNil)) (val_cat tt_ok rfl rfl x40) rfl ?_
 obtain ⟨v41, x41, h⟩ := bsome h
 refine k_cq rfl rfl rfl Tryd.call22 rfl rfl rfl (q_pf (k_hindcastlaw08_fails x41) (fun w hI => ⟨(Rds.call G0S pNil rsub_nil) w hI, (Rds.call G1S pNil rsub_nil) w hI⟩)) rfl (pSub (pA pNil)) ?_
 refine k_val (v := .bool (!v41)) rfl rfl rfl (pSub (pA pNil)) (sV rfl) rfl ?_
 obtain rfl := sI h
 have h := hg43; clear hg43
 refine k_val (v := .bool (!v41)) rfl rfl rfl (pSub (pA pNil)) (sV rfl) rfl (k_val rfl rfl rfl (pSub (pA pNil)) (sV rfl) rfl ?_)
 obtain ⟨v48, h, hg48⟩ := bsome h
 refine k_split (t := 44) rfl (fun hc => ?_) (fun hc => ?_)
 ·replace h := ct hc h
  iterate 3 refine k_skip rfl rfl (pSub (pA pNil)) rfl ?_
  obtain rfl := sI h
  have h := hg48; clear hg48
  refine k_val (v := .bool true) rfl rfl rfl (pSub (pA pNil)) (sV rfl) rfl (k_end (by kernel_rfl) (wx_then ?_))
  replace h := ct rfl h
  refine wc_cond_true rfl ?_
  refine wSR (wP rfl rfl (wNT (wc_ret (wx_then_ret ?_))))
  obtain rfl := sI h
  exact wx_pf tt_ok (.inl rfl) Tryd.results7 (Res.tmp rfl Res.nil) rfl
 replace h := cf hc h
 obtain ⟨v45, x45, h⟩ := bsome h
 refine k_cs rfl rfl rfl Tryd.call23 rfl rfl rfl (s_sp (k_hindcastlaw08_first x45) pNil (fun _ _ => trivial)) rfl (.inr (by rintro _ _ ⟨_, ⟨_, _, _, _, _, _, rfl, rfl⟩, rfl⟩; exact ⟨_, (pApp (sA hA') pNil)⟩)) ?_
 rintro _ _ ⟨_, ⟨v45a0, v45n0, v45c0, v45B0, v45N0, v45V0, rfl, rfl⟩, rfl⟩
 obtain ⟨v46, x46, h⟩ := bsome h
 refine k_cq rfl rfl rfl Tryd.call11 rfl rfl rfl (q_pf (k_state_Check (p0 := v45) v45N0 (vec_cap v45V0) x46) (fun w hI => ⟨(Rds.call (Rds.of_vec v45V0) pNil ⟨_, hA'⟩) w hI, (Rds.call G0S pNil rsub_nil) w hI, (Rds.call G1S pNil rsub_nil) w hI⟩)) rfl (pSub (pApp (sA hA') pNil)) ?_
 refine k_val (v := .bool (v46 != (0 : Int))) rfl rfl rfl (pSub (pApp (sA hA') pNil)) (sV rfl) rfl ?_
 obtain rfl := sI h
 have h := hg48; clear hg48
 refine k_val (v := .bool (v46 != (0 : Int))) rfl rfl rfl (pSub (pApp (sA hA') pNil)) (sV rfl) rfl (k_end (by kernel_rfl) (wx_then (wc_cond rfl (fun hc => ?_) (fun hc => ?_))))
 ·replace h := ct hc h
  refine wSR (wP rfl rfl (wNT (wc_ret (wx_then_ret ?_))))
  obtain rfl := sI h
  exact wx_pf tt_ok (.inl rfl) Tryd.results7 (Res.tmp rfl Res.nil) rfl
 replace h := cf hc h
 refine wc_skip (wx_then (wSR (wl_chg (chg_mkob (k := 9) tt_ok rfl rfl rfl rfl rfl rfl rfl rfl rfl) rfl ?_)))
 rintro _ _ ⟨b49, rfl, rfl⟩
 refine wP rfl rfl (wNT (wc_seq (wSR (wP rfl rfl (wNT (wc_block (wc_rounds 10 (wr_step (wc_seq (wSR ?_))))))))))
 iterate 2 refine wP rfl rfl ?_
 refine wP (v := .int .i64 (9 : Int)) rfl rfl (wP (v := .bool true) rfl rfl (wNT (wc_cond_true rfl (wc_skip (wx_then (wc_seq (wc_block (wc_region ?_))))))))
 iterate 2 refine wP rfl rfl ?_
 obtain ⟨v100058, x100058, h⟩ := bsome h
 refine wl_cs Tryd.call23 rfl rfl rfl (s_sp (k_hindcastlaw08_first x100058) pNil (fun _ _ => trivial)) rfl ?_
 rintro _ _ ⟨_, ⟨v100058a0, v100058n0, v100058c0, v100058B0, v100058N0, v100058V0, rfl, rfl⟩, rfl⟩
 refine wl_val (v := .pointer (some ⟨b49, 0, none⟩)) (val_ixb (j := 0) tt_ok rfl rfl rfl rfl rfl rfl rfl) rfl ?_
 apply wl_store tt_ok; rfl; exact (Upd.right Upd.here); rfl; rfl; rfl; rfl; rfl; rfl
 refine wl_nil (wx_block (wx_then (wc_region (wP rfl rfl (wP (v := .int .i64 (1 : Int)) rfl rfl (wP rfl rfl (wl_nil (wx_again (wr_step (wc_seq (wSR ?_)))))))))))
 iterate 2 refine wP rfl rfl ?_
 refine wP (v := .int .i64 (9 : Int)) rfl rfl (wP (v := .bool true) rfl rfl (wNT (wc_cond_true rfl (wc_skip (wx_then (wc_seq (wc_block (wc_region ?_))))))))
 iterate 2 refine wP rfl rfl ?_
 obtain ⟨v200058, x200058, h⟩ := bsome h
 refine wl_cs Tryd.call23 rfl rfl rfl (s_sp (k_hindcastlaw08_first x200058) pNil (fun _ _ => trivial)) rfl ?_
 rintro _ _ ⟨_, ⟨v200058a0, v200058n0, v200058c0, v200058B0, v200058N0, v200058V0, rfl, rfl⟩, rfl⟩
 refine wl_val (v := .pointer (some ⟨b49, 19, none⟩)) (val_ixb (j := 1) tt_ok rfl rfl rfl rfl rfl rfl rfl) rfl ?_
 apply wl_store tt_ok; rfl; exact (Upd.right (Upd.right Upd.here)); rfl; rfl; rfl; rfl; rfl; rfl
 refine wl_nil (wx_block (wx_then (wc_region (wP rfl rfl (wP (v := .int .i64 (2 : Int)) rfl rfl (wP rfl rfl (wl_nil (wx_again (wr_step (wc_seq (wSR ?_)))))))))))
 iterate 2 refine wP rfl rfl ?_
 refine wP (v := .int .i64 (9 : Int)) rfl rfl (wP (v := .bool true) rfl rfl (wNT (wc_cond_true rfl (wc_skip (wx_then (wc_seq (wc_block (wc_region ?_))))))))
 iterate 2 refine wP rfl rfl ?_
 obtain ⟨v300058, x300058, h⟩ := bsome h
 refine wl_cs Tryd.call23 rfl rfl rfl (s_sp (k_hindcastlaw08_first x300058) pNil (fun _ _ => trivial)) rfl ?_
 rintro _ _ ⟨_, ⟨v300058a0, v300058n0, v300058c0, v300058B0, v300058N0, v300058V0, rfl, rfl⟩, rfl⟩
 refine wl_val (v := .pointer (some ⟨b49, 38, none⟩)) (val_ixb (j := 2) tt_ok rfl rfl rfl rfl rfl rfl rfl) rfl ?_
 apply wl_store tt_ok; rfl; exact (Upd.right (Upd.right (Upd.right Upd.here))); rfl; rfl; rfl; rfl; rfl; rfl
 refine wl_nil (wx_block (wx_then (wc_region (wP rfl rfl (wP (v := .int .i64 (3 : Int)) rfl rfl (wP rfl rfl (wl_nil (wx_again (wr_step (wc_seq (wSR ?_)))))))))))
 iterate 2 refine wP rfl rfl ?_
 refine wP (v := .int .i64 (9 : Int)) rfl rfl (wP (v := .bool true) rfl rfl (wNT (wc_cond_true rfl (wc_skip (wx_then (wc_seq (wc_block (wc_region ?_))))))))
 iterate 2 refine wP rfl rfl ?_
 obtain ⟨v400058, x400058, h⟩ := bsome h
 refine wl_cs Tryd.call23 rfl rfl rfl (s_sp (k_hindcastlaw08_first x400058) pNil (fun _ _ => trivial)) rfl ?_
 rintro _ _ ⟨_, ⟨v400058a0, v400058n0, v400058c0, v400058B0, v400058N0, v400058V0, rfl, rfl⟩, rfl⟩
 refine wl_val (v := .pointer (some ⟨b49, 57, none⟩)) (val_ixb (j := 3) tt_ok rfl rfl rfl rfl rfl rfl rfl) rfl ?_
 apply wl_store tt_ok; rfl; exact (Upd.right (Upd.right (Upd.right (Upd.right Upd.here)))); rfl; rfl; rfl; rfl; rfl; rfl
 refine wl_nil (wx_block (wx_then (wc_region (wP rfl rfl (wP (v := .int .i64 (4 : Int)) rfl rfl (wP rfl rfl (wl_nil (wx_again (wr_step (wc_seq (wSR ?_)))))))))))
 iterate 2 refine wP rfl rfl ?_
 refine wP (v := .int .i64 (9 : Int)) rfl rfl (wP (v := .bool true) rfl rfl (wNT (wc_cond_true rfl (wc_skip (wx_then (wc_seq (wc_block (wc_region ?_))))))))
 iterate 2 refine wP rfl rfl ?_
 obtain ⟨v500058, x500058, h⟩ := bsome h
 refine wl_cs Tryd.call23 rfl rfl rfl (s_sp (k_hindcastlaw08_first x500058) pNil (fun _ _ => trivial)) rfl ?_
 rintro _ _ ⟨_, ⟨v500058a0, v500058n0, v500058c0, v500058B0, v500058N0, v500058V0, rfl, rfl⟩, rfl⟩
 refine wl_val (v := .pointer (some ⟨b49, 76, none⟩)) (val_ixb (j := 4) tt_ok rfl rfl rfl rfl rfl rfl rfl) rfl ?_
 apply wl_store tt_ok; rfl; exact (Upd.right (Upd.right (Upd.right (Upd.right (Upd.right Upd.here))))); rfl; rfl; rfl; rfl; rfl; rfl
 refine wl_nil (wx_block (wx_then (wc_region (wP rfl rfl (wP (v := .int .i64 (5 : Int)) rfl rfl (wP rfl rfl (wl_nil (wx_again (wr_step (wc_seq (wSR ?_)))))))))))
 iterate 2 refine wP rfl rfl ?_
 refine wP (v := .int .i64 (9 : Int)) rfl rfl (wP (v := .bool true) rfl rfl (wNT (wc_cond_true rfl (wc_skip (wx_then (wc_seq (wc_block (wc_region ?_))))))))
 iterate 2 refine wP rfl rfl ?_
 obtain ⟨v600058, x600058, h⟩ := bsome h
 refine wl_cs Tryd.call23 rfl rfl rfl (s_sp (k_hindcastlaw08_first x600058) pNil (fun _ _ => trivial)) rfl ?_
 rintro _ _ ⟨_, ⟨v600058a0, v600058n0, v600058c0, v600058B0, v600058N0, v600058V0, rfl, rfl⟩, rfl⟩
 refine wl_val (v := .pointer (some ⟨b49, 95, none⟩)) (val_ixb (j := 5) tt_ok rfl rfl rfl rfl rfl rfl rfl) rfl ?_
 apply wl_store tt_ok; rfl; exact (Upd.right (Upd.right (Upd.right (Upd.right (Upd.right (Upd.right Upd.here)))))); rfl; rfl; rfl; rfl; rfl; rfl
 refine wl_nil (wx_block (wx_then (wc_region (wP rfl rfl (wP (v := .int .i64 (6 : Int)) rfl rfl (wP rfl rfl (wl_nil (wx_again (wr_step (wc_seq (wSR ?_)))))))))))
 iterate 2 refine wP rfl rfl ?_
 refine wP (v := .int .i64 (9 : Int)) rfl rfl (wP (v := .bool true) rfl rfl (wNT (wc_cond_true rfl (wc_skip (wx_then (wc_seq (wc_block (wc_region ?_))))))))
 iterate 2 refine wP rfl rfl ?_
 obtain ⟨v700058, x700058, h⟩ := bsome h
 refine wl_cs Tryd.call23 rfl rfl rfl (s_sp (k_hindcastlaw08_first x700058) pNil (fun _ _ => trivial)) rfl ?_
 rintro _ _ ⟨_, ⟨v700058a0, v700058n0, v700058c0, v700058B0, v700058N0, v700058V0, rfl, rfl⟩, rfl⟩
 refine wl_val (v := .pointer (some ⟨b49, 114, none⟩)) (val_ixb (j := 6) tt_ok rfl rfl rfl rfl rfl rfl rfl) rfl ?_
 apply wl_store tt_ok; rfl; exact (Upd.right (Upd.right (Upd.right (Upd.right (Upd.right (Upd.right (Upd.right Upd.here))))))); rfl; rfl; rfl; rfl; rfl; rfl
 refine wl_nil (wx_block (wx_then (wc_region (wP rfl rfl (wP (v := .int .i64 (7 : Int)) rfl rfl (wP rfl rfl (wl_nil (wx_again (wr_step (wc_seq (wSR ?_)))))))))))
 iterate 2 refine wP rfl rfl ?_
 refine wP (v := .int .i64 (9 : Int)) rfl rfl (wP (v := .bool true) rfl rfl (wNT (wc_cond_true rfl (wc_skip (wx_then (wc_seq (wc_block (wc_region ?_))))))))
 iterate 2 refine wP rfl rfl ?_
 obtain ⟨v800058, x800058, h⟩ := bsome h
 refine wl_cs Tryd.call23 rfl rfl rfl (s_sp (k_hindcastlaw08_first x800058) pNil (fun _ _ => trivial)) rfl ?_
 rintro _ _ ⟨_, ⟨v800058a0, v800058n0, v800058c0, v800058B0, v800058N0, v800058V0, rfl, rfl⟩, rfl⟩
 refine wl_val (v := .pointer (some ⟨b49, 133, none⟩)) (val_ixb (j := 7) tt_ok rfl rfl rfl rfl rfl rfl rfl) rfl ?_
 apply wl_store tt_ok; rfl; exact (Upd.right (Upd.right (Upd.right (Upd.right (Upd.right (Upd.right (Upd.right (Upd.right Upd.here)))))))); rfl; rfl; rfl; rfl; rfl; rfl
 refine wl_nil (wx_block (wx_then (wc_region (wP rfl rfl (wP (v := .int .i64 (8 : Int)) rfl rfl (wP rfl rfl (wl_nil (wx_again (wr_step (wc_seq (wSR ?_)))))))))))
 iterate 2 refine wP rfl rfl ?_
 refine wP (v := .int .i64 (9 : Int)) rfl rfl (wP (v := .bool true) rfl rfl (wNT (wc_cond_true rfl (wc_skip (wx_then (wc_seq (wc_block (wc_region ?_))))))))
 iterate 2 refine wP rfl rfl ?_
 obtain ⟨v900058, x900058, h⟩ := bsome h
 refine wl_cs Tryd.call23 rfl rfl rfl (s_sp (k_hindcastlaw08_first x900058) pNil (fun _ _ => trivial)) rfl ?_
 rintro _ _ ⟨_, ⟨v900058a0, v900058n0, v900058c0, v900058B0, v900058N0, v900058V0, rfl, rfl⟩, rfl⟩
 refine wl_val (v := .pointer (some ⟨b49, 152, none⟩)) (val_ixb (j := 8) tt_ok rfl rfl rfl rfl rfl rfl rfl) rfl ?_
 apply wl_store tt_ok; rfl; exact (Upd.right (Upd.right (Upd.right (Upd.right (Upd.right (Upd.right (Upd.right (Upd.right (Upd.right Upd.here))))))))); rfl; rfl; rfl; rfl; rfl; rfl
 refine wl_nil (wx_block (wx_then (wc_region (wP rfl rfl (wP (v := .int .i64 (9 : Int)) rfl rfl (wP rfl rfl (wl_nil (wx_again (wr_step (wc_seq (wSR ?_)))))))))))
 iterate 2 refine wP rfl rfl ?_
 refine wP (v := .int .i64 (9 : Int)) rfl rfl (wP (v := .bool false) rfl rfl (wNT (wc_cond_false rfl (wc_exit (wx_then_exit (wx_then_exit (wx_block_exit (wx_then (wSR (wP rfl rfl (wl_val (v := .pointer (some ⟨b49, 0, none⟩)) (val_ixb (j := 0) tt_ok rfl rfl rfl rfl rfl rfl rfl) rfl (wP (v := .pointer (some ⟨b49, 2, none⟩)) rfl rfl (wl_val (v := .pointer (some ⟨b49, 2, none⟩)) (val_ia (j := 0) tt_ok rfl rfl rfl rfl rfl rfl rfl) rfl (wP (v := .pointer (some ⟨b49, 6, none⟩)) rfl rfl ?_))))))))))))))
 apply wl_store tt_ok; rfl; exact (Upd.right (Upd.right (Upd.right (Upd.right (Upd.right (Upd.right (Upd.right (Upd.right (Upd.right Upd.here))))))))); rfl; rfl; rfl; rfl; rfl; rfl
 refine wNT (wSR (wP rfl rfl (wl_val (v := .pointer (some ⟨b49, 19, none⟩)) (val_ixb (j := 1) tt_ok rfl rfl rfl rfl rfl rfl rfl) rfl (wP (v := .pointer (some ⟨b49, 21, none⟩)) rfl rfl (wl_val (v := .pointer (some ⟨b49, 28, none⟩)) (val_ia (j := 1) tt_ok rfl rfl rfl rfl rfl rfl rfl) rfl (wP (v := .pointer (some ⟨b49, 30, none⟩)) rfl rfl ?_))))))
 apply wl_store tt_ok; rfl; exact (Upd.right (Upd.right (Upd.right (Upd.right (Upd.right (Upd.right (Upd.right (Upd.right (Upd.right Upd.here))))))))); rfl; rfl; rfl; rfl; rfl; rfl
 refine wNT (wSR (wP rfl rfl ?_))
 obtain ⟨v71, x71, h⟩ := bsome h
 refine wl_chg (chg_make (enc := c_T_api_Shot) tt_ok rfl rfl rfl rfl rfl rfl c_T_api_Shot_len rfl x71) rfl ?_
 rintro _ _ ⟨a71, n71_, c71, B71, rfl, N71, V71, rfl⟩
 refine wl_val (v := .pointer (some ⟨b49, 38, none⟩)) (val_ixb (j := 2) tt_ok rfl rfl rfl rfl rfl rfl rfl) rfl ?_
 refine wP (v := .pointer (some ⟨b49, 54, none⟩)) rfl rfl ?_
 apply wl_store tt_ok; rfl; exact (Upd.right (Upd.right (Upd.right (Upd.right (Upd.right (Upd.right (Upd.right (Upd.right (Upd.right (Upd.right Upd.here)))))))))); rfl; rfl; rfl; rfl; rfl; rfl
 refine wNT (wSR (wP rfl rfl (wl_val (v := .pointer (some ⟨b49, 57, none⟩)) (val_ixb (j := 3) tt_ok rfl rfl rfl rfl rfl rfl rfl) rfl (wP (v := .pointer (some ⟨b49, 73, none⟩)) rfl rfl (wl_val (v := .slice v400058a0 v400058n0 v400058c0) (val_load tt_ok rfl (mR (mR (mR (mR (mR (mR (mR (mR (mR (mR mH)))))))))) rfl) rfl ?_)))))
 obtain ⟨v78, x78, h⟩ := bsome h
 refine wl_val (v := .pointer (some ((adOf v400058a0).add ((0 : Int).toNat * 6 + 0)))) (val_ix (enc := c_T_api_Shot) tt_ok rfl rfl rfl rfl v400058N0 (Rds.of_vec v400058V0) c_T_api_Shot_len rfl x78) rfl ?_
 refine wl_val (v := .pointer (some ((adOf v400058a0).add ((0 : Int).toNat * 6 + 5)))) (val_fa (k := (0 : Int).toNat * 6 + 0) (off := 5) tt_ok rfl rfl rfl rfl rfl) rfl ?_
 refine wl_chg0 (chg_ste (enc := c_T_api_Shot) (y' := (T_api_Shot.mk v78.X v78.Y v78.VX v78.VY v78.Owner (0 : Int))) tt_ok rfl rfl rfl rfl rfl rfl v400058N0 v400058V0 (sAA (sAA (sAA hA'))) c_T_api_Shot_len x78 rfl (by intro h; cases h)) ?_
 rintro _ _ ⟨Bs37_6, Ns37_6, Vs37_6, rfl⟩
 refine wNT (wSR (wP rfl rfl (wl_val (v := .pointer (some ⟨b49, 76, none⟩)) (val_ixb (j := 4) tt_ok rfl rfl rfl rfl rfl rfl rfl) rfl (wP (v := .pointer (some ⟨b49, 78, none⟩)) rfl rfl (wl_val (v := .pointer (some ⟨b49, 78, none⟩)) (val_ia (j := 0) tt_ok rfl rfl rfl rfl rfl rfl rfl) rfl (wP (v := .pointer (some ⟨b49, 78, none⟩)) rfl rfl ?_))))))
 apply wl_store tt_ok; rfl; exact (Upd.right (Upd.right (Upd.right (Upd.right (Upd.right (Upd.right (Upd.right (Upd.right (Upd.right (Upd.right Upd.here)))))))))); rfl; rfl; rfl; rfl; rfl; rfl
 refine wNT (wSR (wP rfl rfl (wl_val (v := .pointer (some ⟨b49, 95, none⟩)) (val_ixb (j := 5) tt_ok rfl rfl rfl rfl rfl rfl rfl) rfl (wP (v := .pointer (some ⟨b49, 97, none⟩)) rfl rfl (wl_val (v := .pointer (some ⟨b49, 97, none⟩)) (val_ia (j := 0) tt_ok rfl rfl rfl rfl rfl rfl rfl) rfl (wP (v := .pointer (some ⟨b49, 98, none⟩)) rfl rfl ?_))))))
 apply wl_store tt_ok; rfl; exact (Upd.right (Upd.right (Upd.right (Upd.right (Upd.right (Upd.right (Upd.right (Upd.right (Upd.right (Upd.right Upd.here)))))))))); rfl; rfl; rfl; rfl; rfl; rfl
 refine wNT (wSR (wP rfl rfl (wl_val (v := .pointer (some ⟨b49, 114, none⟩)) (val_ixb (j := 6) tt_ok rfl rfl rfl rfl rfl rfl rfl) rfl (wP (v := .pointer (some ⟨b49, 130, none⟩)) rfl rfl (wl_val (v := .slice v700058a0 v700058n0 v700058c0) (val_load tt_ok rfl (mR (mR (mR (mR (mR (mR (mR (mR (mR (mR mH)))))))))) rfl) rfl ?_)))))
 obtain ⟨v94, x94, h⟩ := bsome h
 refine wl_val (v := .pointer (some ((adOf v700058a0).add ((0 : Int).toNat * 6 + 0)))) (val_ix (enc := c_T_api_Shot) tt_ok rfl rfl rfl rfl v700058N0 (Rds.of_vec v700058V0) c_T_api_Shot_len rfl x94) rfl ?_
 refine wl_val (v := .pointer (some ((adOf v700058a0).add ((0 : Int).toNat * 6 + 3)))) (val_fa (k := (0 : Int).toNat * 6 + 0) (off := 3) tt_ok rfl rfl rfl rfl rfl) rfl ?_
 refine wl_chg0 (chg_ste (enc := c_T_api_Shot) (y' := (T_api_Shot.mk v94.X v94.Y v94.VX (2049 : Int) v94.Owner v94.Life)) tt_ok rfl rfl rfl rfl rfl rfl v700058N0 v700058V0 (sAA (sAA hA')) c_T_api_Shot_len x94 rfl (by intro h; cases h)) ?_
 rintro _ _ ⟨Bs43_6, Ns43_6, Vs43_6, rfl⟩
 refine wNT (wSR (wP rfl rfl (wl_val (v := .pointer (some ⟨b49, 133, none⟩)) (val_ixb (j := 7) tt_ok rfl rfl rfl rfl rfl rfl rfl) rfl (wP (v := .pointer (some ⟨b49, 149, none⟩)) rfl rfl (wl_val (v := .slice v800058a0 v800058n0 v800058c0) (val_load tt_ok rfl (mR (mR (mR (mR (mR (mR (mR (mR (mR (mR mH)))))))))) rfl) rfl ?_)))))
 obtain ⟨v100, x100, h⟩ := bsome h
 refine wl_val (v := .pointer (some ((adOf v800058a0).add ((0 : Int).toNat * 6 + 0)))) (val_ix (enc := c_T_api_Shot) tt_ok rfl rfl rfl rfl v800058N0 (Rds.of_vec v800058V0) c_T_api_Shot_len rfl x100) rfl ?_
 refine wl_val (v := .pointer (some ((adOf v800058a0).add ((0 : Int).toNat * 6 + 4)))) (val_fa (k := (0 : Int).toNat * 6 + 0) (off := 4) tt_ok rfl rfl rfl rfl rfl) rfl ?_
 refine wl_chg0 (chg_ste (enc := c_T_api_Shot) (y' := (T_api_Shot.mk v100.X v100.Y v100.VX v100.VY (2 : Int) v100.Life)) tt_ok rfl rfl rfl rfl rfl rfl v800058N0 v800058V0 (sAA (sAA hA')) c_T_api_Shot_len x100 rfl (by intro h; cases h)) ?_
 rintro _ _ ⟨Bs45_6, Ns45_6, Vs45_6, rfl⟩
 refine wNT (wSR (wP rfl rfl (wl_val (v := .pointer (some ⟨b49, 152, none⟩)) (val_ixb (j := 8) tt_ok rfl rfl rfl rfl rfl rfl rfl) rfl (wP (v := .pointer (some ⟨b49, 154, none⟩)) rfl rfl (wl_val (v := .pointer (some ⟨b49, 161, none⟩)) (val_ia (j := 1) tt_ok rfl rfl rfl rfl rfl rfl rfl) rfl (wP (v := .pointer (some ⟨b49, 167, none⟩)) rfl rfl ?_))))))
 apply wl_store tt_ok; rfl; exact (Upd.right (Upd.right (Upd.right (Upd.right (Upd.right (Upd.right (Upd.right (Upd.right (Upd.right (Upd.right Upd.here)))))))))); rfl; rfl; rfl; rfl; rfl; rfl
 refine wNT (wc_seq (wSR (wP rfl rfl (wNT (wc_block (wc_rounds 10 (wr_step (wc_seq (wSR ?_)))))))))
 iterate 2 refine wP rfl rfl ?_
 refine wP (v := .int .i64 (9 : Int)) rfl rfl (wP (v := .bool true) rfl rfl (wNT (wc_cond_true rfl (wc_skip (wx_then (wc_seq (wc_block (wSR ?_))))))))
 iterate 2 refine wP rfl rfl ?_
 refine wl_val (v := .pointer (some ⟨b49, 0, none⟩)) (val_ixb (j := 0) tt_ok rfl rfl rfl rfl rfl rfl rfl) rfl ?_
 refine wl_val (v := .agg #[.int .u64 v100058.Frame, .int .u64 v100058.Seed, .int .i32 v100058.Players.1.X, .int .i32 v100058.Players.1.Y, .int .i32 v100058.Players.1.VX, .int .i32 v100058.Players.1.VY, .int .u8 (0 : Int), .int .u8 v100058.Players.1.Cool, .int .u8 v100058.Players.1.Face, .int .i32 v100058.Players.2.X, .int .i32 v100058.Players.2.Y, .int .i32 v100058.Players.2.VX, .int .i32 v100058.Players.2.VY, .int .u8 v100058.Players.2.Health, .int .u8 v100058.Players.2.Cool, .int .u8 v100058.Players.2.Face, .slice v100058a0 v100058n0 v100058c0, .int .u16 v100058.Score.1, .int .u16 v100058.Score.2]) (val_load tt_ok rfl (mR (mR (mR (mR (mR (mR (mR (mR (mR (mR mH)))))))))) rfl) rfl ?_
 obtain ⟨v1100117, x1100117, h⟩ := bsome h
 refine wl_cq Tryd.call11 rfl rfl rfl (q_pf (k_state_Check (p0 := (T_api_State.mk v100058.Frame v100058.Seed ((T_api_Player.mk v100058.Players.1.X v100058.Players.1.Y v100058.Players.1.VX v100058.Players.1.VY (0 : Int) v100058.Players.1.Cool v100058.Players.1.Face), v100058.Players.2) v100058.Shots v100058.Score)) v100058N0 (vec_cap v100058V0) x1100117) (fun w hI => ⟨(Rds.call (Rds.of_vec v100058V0) pNil ⟨_, (sAA (sAA (sAA (sAA (sA hA')))))⟩) w hI, (Rds.call G0S pNil rsub_nil) w hI, (Rds.call G1S pNil rsub_nil) w hI⟩)) rfl ?_
 refine wP (v := .bool (v1100117 != (4 : Int))) rfl rfl (wP rfl rfl ?_)
 obtain ⟨v1100126, h, hg1100126⟩ := bsome h
 refine wl_split (t := 119) rfl (fun hc => ?_) (fun hc => ?_)
 ·replace h := ct hc h
  iterate 6 refine wl_skip rfl rfl ?_
  obtain rfl := sI h
  have h := hg1100126; clear hg1100126
  refine wP (v := .bool true) rfl rfl (wNT ?_)
  replace h := ct rfl h
  refine wc_cond_true rfl ?_
  refine wSR (wP rfl rfl (wNT (wc_ret (wx_block_ret (wx_then_ret (wx_then_ret (wx_block_ret (wx_then_ret ?_))))))))
  obtain rfl := sI h
  exact wx_pf tt_ok (.inl rfl) Tryd.results7 (Res.tmp rfl Res.nil) rfl
 replace h := cf hc h
 refine wl_run rfl (wP rfl rfl (wl_run rfl (wP rfl rfl (wl_run rfl (wl_val (v := .pointer (some ⟨b49, 0, none⟩)) (val_ixb (j := 0) tt_ok rfl rfl rfl rfl rfl rfl rfl) rfl (wl_run rfl (wl_val (v := .agg #[.int .u64 v100058.Frame, .int .u64 v100058.Seed, .int .i32 v100058.Players.1.X, .int .i32 v100058.Players.1.Y, .int .i32 v100058.Players.1.VX, .int .i32 v100058.Players.1.VY, .int .u8 (0 : Int), .int .u8 v100058.Players.1.Cool, .int .u8 v100058.Players.1.Face, .int .i32 v100058.Players.2.X, .int .i32 v100058.Players.2.Y, .int .i32 v100058.Players.2.VX, .int .i32 v100058.Players.2.VY, .int .u8 v100058.Players.2.Health, .int .u8 v100058.Players.2.Cool, .int .u8 v100058.Players.2.Face, .slice v100058a0 v100058n0 v100058c0, .int .u16 v100058.Score.1, .int .u16 v100058.Score.2]) (val_load tt_ok rfl (mR (mR (mR (mR (mR (mR (mR (mR (mR (mR mH)))))))))) rfl) rfl ?_)))))))
 obtain ⟨v1100124, x1100124, h⟩ := bsome h
 refine wl_run rfl (wl_cq Tryd.call13 rfl rfl rfl (q_pf (k_state_Put (p0 := (T_api_State.mk v100058.Frame v100058.Seed ((T_api_Player.mk v100058.Players.1.X v100058.Players.1.Y v100058.Players.1.VX v100058.Players.1.VY (0 : Int) v100058.Players.1.Cool v100058.Players.1.Face), v100058.Players.2) v100058.Shots v100058.Score)) v100058N0 (vec_cap v100058V0) x1100124) (fun w hI => ⟨(Rds.call (Rds.of_vec v100058V0) pNil ⟨_, (sAA (sAA (sAA (sAA (sA hA')))))⟩) w hI, (Rds.call G0S pNil rsub_nil) w hI, (Rds.call G1S pNil rsub_nil) w hI⟩)) rfl (wl_run rfl (wl_val (v := .bool (!(v1100124 == ([] : List UInt8)))) (val_sne tt_ok rfl rfl) rfl ?_)))
 obtain rfl := sI h
 have h := hg1100126; clear hg1100126
 refine wP (v := .bool (!(v1100124 == ([] : List UInt8)))) rfl rfl (wNT (wc_cond rfl (fun hc => ?_) (fun hc => ?_)))
 ·replace h := ct hc h
  refine wSR (wP rfl rfl (wNT (wc_ret (wx_block_ret (wx_then_ret (wx_then_ret (wx_block_ret (wx_then_ret ?_))))))))
  obtain rfl := sI h
  exact wx_pf tt_ok (.inl rfl) Tryd.results7 (Res.tmp rfl Res.nil) rfl
 replace h := cf hc h
 refine wc_skip (wx_block (wx_then (wc_region (wP rfl rfl (wP (v := .int .i64 (1 : Int)) rfl rfl (wP rfl rfl (wl_nil (wx_again (wr_step (wc_seq (wSR ?_)))))))))))
 iterate 2 refine wP rfl rfl ?_
 refine wP (v := .int .i64 (9 : Int)) rfl rfl (wP (v := .bool true) rfl rfl (wNT (wc_cond_true rfl (wc_skip (wx_then (wc_seq (wc_block (wSR ?_))))))))
 iterate 2 refine wP rfl rfl ?_
 refine wl_val (v := .pointer (some ⟨b49, 19, none⟩)) (val_ixb (j := 1) tt_ok rfl rfl rfl rfl rfl rfl rfl) rfl ?_
 refine wl_val (v := .agg #[.int .u64 v200058.Frame, .int .u64 v200058.Seed, .int .i32 v200058.Players.1.X, .int .i32 v200058.Players.1.Y, .int .i32 v200058.Players.1.VX, .int .i32 v200058.Players.1.VY, .int .u8 v200058.Players.1.Health, .int .u8 v200058.Players.1.Cool, .int .u8 v200058.Players.1.Face, .int .i32 v200058.Players.2.X, .int .i32 v200058.Players.2.Y, .int .i32 (1025 : Int), .int .i32 v200058.Players.2.VY, .int .u8 v200058.Players.2.Health, .int .u8 v200058.Players.2.Cool, .int .u8 v200058.Players.2.Face, .slice v200058a0 v200058n0 v200058c0, .int .u16 v200058.Score.1, .int .u16 v200058.Score.2]) (val_load tt_ok rfl (mR (mR (mR (mR (mR (mR (mR (mR (mR (mR mH)))))))))) rfl) rfl ?_
 obtain ⟨v1200117, x1200117, h⟩ := bsome h
 refine wl_cq Tryd.call11 rfl rfl rfl (q_pf (k_state_Check (p0 := (T_api_State.mk v200058.Frame v200058.Seed (v200058.Players.1, (T_api_Player.mk v200058.Players.2.X v200058.Players.2.Y (1025 : Int) v200058.Players.2.VY v200058.Players.2.Health v200058.Players.2.Cool v200058.Players.2.Face)) v200058.Shots v200058.Score)) v200058N0 (vec_cap v200058V0) x1200117) (fun w hI => ⟨(Rds.call (Rds.of_vec v200058V0) pNil ⟨_, (sAA (sAA (sAA (sAA hA'))))⟩) w hI, (Rds.call G0S pNil rsub_nil) w hI, (Rds.call G1S pNil rsub_nil) w hI⟩)) rfl ?_
 refine wP (v := .bool (v1200117 != (4 : Int))) rfl rfl (wP rfl rfl ?_)
 obtain ⟨v1200126, h, hg1200126⟩ := bsome h
 refine wl_split (t := 119) rfl (fun hc => ?_) (fun hc => ?_)
 ·replace h := ct hc h
  iterate 6 refine wl_skip rfl rfl ?_
  obtain rfl := sI h
  have h := hg1200126; clear hg1200126
  refine wP (v := .bool true) rfl rfl (wNT ?_)
  replace h := ct rfl h
  refine wc_cond_true rfl ?_
  refine wSR (wP rfl rfl (wNT (wc_ret (wx_block_ret (wx_then_ret (wx_then_ret (wx_block_ret (wx_then_ret ?_))))))))
  obtain rfl := sI h
  exact wx_pf tt_ok (.inl rfl) Tryd.results7 (Res.tmp rfl Res.nil) rfl
 replace h := cf hc h
 refine wl_run rfl (wP rfl rfl (wl_run rfl (wP rfl rfl (wl_run rfl (wl_val (v := .pointer (some ⟨b49, 19, none⟩)) (val_ixb (j := 1) tt_ok rfl rfl rfl rfl rfl rfl rfl) rfl (wl_run rfl (wl_val (v := .agg #[.int .u64 v200058.Frame, .int .u64 v200058.Seed, .int .i32 v200058.Players.1.X, .int .i32 v200058.Players.1.Y, .int .i32 v200058.Players.1.VX, .int .i32 v200058.Players.1.VY, .int .u8 v200058.Players.1.Health, .int .u8 v200058.Players.1.Cool, .int .u8 v200058.Players.1.Face, .int .i32 v200058.Players.2.X, .int .i32 v200058.Players.2.Y, .int .i32 (1025 : Int), .int .i32 v200058.Players.2.VY, .int .u8 v200058.Players.2.Health, .int .u8 v200058.Players.2.Cool, .int .u8 v200058.Players.2.Face, .slice v200058a0 v200058n0 v200058c0, .int .u16 v200058.Score.1, .int .u16 v200058.Score.2]) (val_load tt_ok rfl (mR (mR (mR (mR (mR (mR (mR (mR (mR (mR mH)))))))))) rfl) rfl ?_)))))))
 obtain ⟨v1200124, x1200124, h⟩ := bsome h
 refine wl_run rfl (wl_cq Tryd.call13 rfl rfl rfl (q_pf (k_state_Put (p0 := (T_api_State.mk v200058.Frame v200058.Seed (v200058.Players.1, (T_api_Player.mk v200058.Players.2.X v200058.Players.2.Y (1025 : Int) v200058.Players.2.VY v200058.Players.2.Health v200058.Players.2.Cool v200058.Players.2.Face)) v200058.Shots v200058.Score)) v200058N0 (vec_cap v200058V0) x1200124) (fun w hI => ⟨(Rds.call (Rds.of_vec v200058V0) pNil ⟨_, (sAA (sAA (sAA (sAA hA'))))⟩) w hI, (Rds.call G0S pNil rsub_nil) w hI, (Rds.call G1S pNil rsub_nil) w hI⟩)) rfl (wl_run rfl (wl_val (v := .bool (!(v1200124 == ([] : List UInt8)))) (val_sne tt_ok rfl rfl) rfl ?_)))
 obtain rfl := sI h
 have h := hg1200126; clear hg1200126
 refine wP (v := .bool (!(v1200124 == ([] : List UInt8)))) rfl rfl (wNT (wc_cond rfl (fun hc => ?_) (fun hc => ?_)))
 ·replace h := ct hc h
  refine wSR (wP rfl rfl (wNT (wc_ret (wx_block_ret (wx_then_ret (wx_then_ret (wx_block_ret (wx_then_ret ?_))))))))
  obtain rfl := sI h
  exact wx_pf tt_ok (.inl rfl) Tryd.results7 (Res.tmp rfl Res.nil) rfl
 replace h := cf hc h
 refine wc_skip (wx_block (wx_then (wc_region (wP rfl rfl (wP (v := .int .i64 (2 : Int)) rfl rfl (wP rfl rfl (wl_nil (wx_again (wr_step (wc_seq (wSR ?_)))))))))))
 iterate 2 refine wP rfl rfl ?_
 refine wP (v := .int .i64 (9 : Int)) rfl rfl (wP (v := .bool true) rfl rfl (wNT (wc_cond_true rfl (wc_skip (wx_then (wc_seq (wc_block (wSR ?_))))))))
 iterate 2 refine wP rfl rfl ?_
 refine wl_val (v := .pointer (some ⟨b49, 38, none⟩)) (val_ixb (j := 2) tt_ok rfl rfl rfl rfl rfl rfl rfl) rfl ?_
 refine wl_val (v := agS v300058 a71 n71_ c71) (val_load tt_ok rfl (mR (mR (mR (mR (mR (mR (mR (mR (mR (mR mH)))))))))) rfl) rfl ?_
 obtain ⟨v1300117, x1300117, h⟩ := bsome h
 refine wl_cq Tryd.call11 rfl rfl rfl (q_pf (k_state_Check (p0 := (T_api_State.mk v300058.Frame v300058.Seed v300058.Players v71 v300058.Score)) N71 (vec_cap V71) x1300117) (fun w hI => ⟨(Rds.call (Rds.of_vec V71) pNil ⟨_, (sAA (sA hA'))⟩) w hI, (Rds.call G0S pNil rsub_nil) w hI, (Rds.call G1S pNil rsub_nil) w hI⟩)) rfl ?_
 refine wP (v := .bool (v1300117 != (4 : Int))) rfl rfl (wP rfl rfl ?_)
 obtain ⟨v1300126, h, hg1300126⟩ := bsome h
 refine wl_split (t := 119) rfl (fun hc => ?_) (fun hc => ?_)
 ·replace h := ct hc h
  iterate 6 refine wl_skip rfl rfl ?_
  obtain rfl := sI h
  have h := hg1300126; clear hg1300126
  refine wP (v := .bool true) rfl rfl (wNT ?_)
  replace h := ct rfl h
  refine wc_cond_true rfl ?_
  refine wSR (wP rfl rfl (wNT (wc_ret (wx_block_ret (wx_then_ret (wx_then_ret (wx_block_ret (wx_then_ret ?_))))))))
  obtain rfl := sI h
  exact wx_pf tt_ok (.inl rfl) Tryd.results7 (Res.tmp rfl Res.nil) rfl
 replace h := cf hc h
 refine wl_run rfl (wP rfl rfl (wl_run rfl (wP rfl rfl (wl_run rfl (wl_val (v := .pointer (some ⟨b49, 38, none⟩)) (val_ixb (j := 2) tt_ok rfl rfl rfl rfl rfl rfl rfl) rfl (wl_run rfl (wl_val (v := agS v300058 a71 n71_ c71) (val_load tt_ok rfl (mR (mR (mR (mR (mR (mR (mR (mR (mR (mR mH)))))))))) rfl) rfl ?_)))))))
 obtain ⟨v1300124, x1300124, h⟩ := bsome h
 refine wl_run rfl (wl_cq Tryd.call13 rfl rfl rfl (q_pf (k_state_Put (p0 := (T_api_State.mk v300058.Frame v300058.Seed v300058.Players v71 v300058.Score)) N71 (vec_cap V71) x1300124) (fun w hI => ⟨(Rds.call (Rds.of_vec V71) pNil ⟨_, (sAA (sA hA'))⟩) w hI, (Rds.call G0S pNil rsub_nil) w hI, (Rds.call G1S pNil rsub_nil) w hI⟩)) rfl (wl_run rfl (wl_val (v := .bool (!(v1300124 == ([] : List UInt8)))) (val_sne tt_ok rfl rfl) rfl ?_)))
 obtain rfl := sI h
 have h := hg1300126; clear hg1300126
 refine wP (v := .bool (!(v1300124 == ([] : List UInt8)))) rfl rfl (wNT (wc_cond rfl (fun hc => ?_) (fun hc => ?_)))
 ·replace h := ct hc h
  refine wSR (wP rfl rfl (wNT (wc_ret (wx_block_ret (wx_then_ret (wx_then_ret (wx_block_ret (wx_then_ret ?_))))))))
  obtain rfl := sI h
  exact wx_pf tt_ok (.inl rfl) Tryd.results7 (Res.tmp rfl Res.nil) rfl
 replace h := cf hc h
 refine wc_skip (wx_block (wx_then (wc_region (wP rfl rfl (wP (v := .int .i64 (3 : Int)) rfl rfl (wP rfl rfl (wl_nil (wx_again (wr_step (wc_seq (wSR ?_)))))))))))
 iterate 2 refine wP rfl rfl ?_
 refine wP (v := .int .i64 (9 : Int)) rfl rfl (wP (v := .bool true) rfl rfl (wNT (wc_cond_true rfl (wc_skip (wx_then (wc_seq (wc_block (wSR ?_))))))))
 iterate 2 refine wP rfl rfl ?_
 refine wl_val (v := .pointer (some ⟨b49, 57, none⟩)) (val_ixb (j := 3) tt_ok rfl rfl rfl rfl rfl rfl rfl) rfl ?_
 refine wl_val (v := agS v400058 v400058a0 v400058n0 v400058c0) (val_load tt_ok rfl (mR (mR (mR (mR (mR (mR (mR (mR (mR (mR mH)))))))))) rfl) rfl ?_
 obtain ⟨v1400117, x1400117, h⟩ := bsome h
 refine wl_cq Tryd.call11 rfl rfl rfl (q_pf (k_state_Check (p0 := (T_api_State.mk v400058.Frame v400058.Seed v400058.Players (setI v400058.Shots (0 : Int) (T_api_Shot.mk v78.X v78.Y v78.VX v78.VY v78.Owner (0 : Int))) v400058.Score)) Ns37_6 (vec_cap Vs37_6) x1400117) (fun w hI => ⟨(Rds.call (Rds.of_vec Vs37_6) pNil ⟨_, (sAA hA')⟩) w hI, (Rds.call G0S pNil rsub_nil) w hI, (Rds.call G1S pNil rsub_nil) w hI⟩)) rfl ?_
 refine wP (v := .bool (v1400117 != (4 : Int))) rfl rfl (wP rfl rfl ?_)
 obtain ⟨v1400126, h, hg1400126⟩ := bsome h
 refine wl_split (t := 119) rfl (fun hc => ?_) (fun hc => ?_)
 ·replace h := ct hc h
  iterate 6 refine wl_skip rfl rfl ?_
  obtain rfl := sI h
  have h := hg1400126; clear hg1400126
  refine wP (v := .bool true) rfl rfl (wNT ?_)
  replace h := ct rfl h
  refine wc_cond_true rfl ?_
  refine wSR (wP rfl rfl (wNT (wc_ret (wx_block_ret (wx_then_ret (wx_then_ret (wx_block_ret (wx_then_ret ?_))))))))
  obtain rfl := sI h
  exact wx_pf tt_ok (.inl rfl) Tryd.results7 (Res.tmp rfl Res.nil) rfl
 replace h := cf hc h
 refine wl_run rfl (wP rfl rfl (wl_run rfl (wP rfl rfl (wl_run rfl (wl_val (v := .pointer (some ⟨b49, 57, none⟩)) (val_ixb (j := 3) tt_ok rfl rfl rfl rfl rfl rfl rfl) rfl (wl_run rfl (wl_val (v := agS v400058 v400058a0 v400058n0 v400058c0) (val_load tt_ok rfl (mR (mR (mR (mR (mR (mR (mR (mR (mR (mR mH)))))))))) rfl) rfl ?_)))))))
 obtain ⟨v1400124, x1400124, h⟩ := bsome h
 refine wl_run rfl (wl_cq Tryd.call13 rfl rfl rfl (q_pf (k_state_Put (p0 := (T_api_State.mk v400058.Frame v400058.Seed v400058.Players (setI v400058.Shots (0 : Int) (T_api_Shot.mk v78.X v78.Y v78.VX v78.VY v78.Owner (0 : Int))) v400058.Score)) Ns37_6 (vec_cap Vs37_6) x1400124) (fun w hI => ⟨(Rds.call (Rds.of_vec Vs37_6) pNil ⟨_, (sAA hA')⟩) w hI, (Rds.call G0S pNil rsub_nil) w hI, (Rds.call G1S pNil rsub_nil) w hI⟩)) rfl (wl_run rfl (wl_val (v := .bool (!(v1400124 == ([] : List UInt8)))) (val_sne tt_ok rfl rfl) rfl ?_)))
 obtain rfl := sI h
 have h := hg1400126; clear hg1400126
 refine wP (v := .bool (!(v1400124 == ([] : List UInt8)))) rfl rfl (wNT (wc_cond rfl (fun hc => ?_) (fun hc => ?_)))
 ·replace h := ct hc h
  refine wSR (wP rfl rfl (wNT (wc_ret (wx_block_ret (wx_then_ret (wx_then_ret (wx_block_ret (wx_then_ret ?_))))))))
  obtain rfl := sI h
  exact wx_pf tt_ok (.inl rfl) Tryd.results7 (Res.tmp rfl Res.nil) rfl
 replace h := cf hc h
 refine wc_skip (wx_block (wx_then (wc_region (wP rfl rfl (wP (v := .int .i64 (4 : Int)) rfl rfl (wP rfl rfl (wl_nil (wx_again (wr_step (wc_seq (wSR ?_)))))))))))
 iterate 2 refine wP rfl rfl ?_
 refine wP (v := .int .i64 (9 : Int)) rfl rfl (wP (v := .bool true) rfl rfl (wNT (wc_cond_true rfl (wc_skip (wx_then (wc_seq (wc_block (wSR ?_))))))))
 iterate 2 refine wP rfl rfl ?_
 refine wl_val (v := .pointer (some ⟨b49, 76, none⟩)) (val_ixb (j := 4) tt_ok rfl rfl rfl rfl rfl rfl rfl) rfl ?_
 refine wl_val (v := .agg #[.int .u64 v500058.Frame, .int .u64 v500058.Seed, .int .i32 (61441 : Int), .int .i32 v500058.Players.1.Y, .int .i32 v500058.Players.1.VX, .int .i32 v500058.Players.1.VY, .int .u8 v500058.Players.1.Health, .int .u8 v500058.Players.1.Cool, .int .u8 v500058.Players.1.Face, .int .i32 v500058.Players.2.X, .int .i32 v500058.Players.2.Y, .int .i32 v500058.Players.2.VX, .int .i32 v500058.Players.2.VY, .int .u8 v500058.Players.2.Health, .int .u8 v500058.Players.2.Cool, .int .u8 v500058.Players.2.Face, .slice v500058a0 v500058n0 v500058c0, .int .u16 v500058.Score.1, .int .u16 v500058.Score.2]) (val_load tt_ok rfl (mR (mR (mR (mR (mR (mR (mR (mR (mR (mR mH)))))))))) rfl) rfl ?_
 obtain ⟨v1500117, x1500117, h⟩ := bsome h
 refine wl_cq Tryd.call11 rfl rfl rfl (q_pf (k_state_Check (p0 := (T_api_State.mk v500058.Frame v500058.Seed ((T_api_Player.mk (61441 : Int) v500058.Players.1.Y v500058.Players.1.VX v500058.Players.1.VY v500058.Players.1.Health v500058.Players.1.Cool v500058.Players.1.Face), v500058.Players.2) v500058.Shots v500058.Score)) v500058N0 (vec_cap v500058V0) x1500117) (fun w hI => ⟨(Rds.call (Rds.of_vec v500058V0) pNil ⟨_, (sAA (sAA (sAA hA')))⟩) w hI, (Rds.call G0S pNil rsub_nil) w hI, (Rds.call G1S pNil rsub_nil) w hI⟩)) rfl ?_
 refine wP (v := .bool (v1500117 != (4 : Int))) rfl rfl (wP rfl rfl ?_)
 obtain ⟨v1500126, h, hg1500126⟩ := bsome h
 refine wl_split (t := 119) rfl (fun hc => ?_) (fun hc => ?_)
 ·replace h := ct hc h
  iterate 6 refine wl_skip rfl rfl ?_
  obtain rfl := sI h
  have h := hg1500126; clear hg1500126
  refine wP (v := .bool true) rfl rfl (wNT ?_)
  replace h := ct rfl h
  refine wc_cond_true rfl ?_
  refine wSR (wP rfl rfl (wNT (wc_ret (wx_block_ret (wx_then_ret (wx_then_ret (wx_block_ret (wx_then_ret ?_))))))))
  obtain rfl := sI h
  exact wx_pf tt_ok (.inl rfl) Tryd.results7 (Res.tmp rfl Res.nil) rfl
 replace h := cf hc h
 refine wl_run rfl (wP rfl rfl (wl_run rfl (wP rfl rfl (wl_run rfl (wl_val (v := .pointer (some ⟨b49, 76, none⟩)) (val_ixb (j := 4) tt_ok rfl rfl rfl rfl rfl rfl rfl) rfl (wl_run rfl (wl_val (v := .agg #[.int .u64 v500058.Frame, .int .u64 v500058.Seed, .int .i32 (61441 : Int), .int .i32 v500058.Players.1.Y, .int .i32 v500058.Players.1.VX, .int .i32 v500058.Players.1.VY, .int .u8 v500058.Players.1.Health, .int .u8 v500058.Players.1.Cool, .int .u8 v500058.Players.1.Face, .int .i32 v500058.Players.2.X, .int .i32 v500058.Players.2.Y, .int .i32 v500058.Players.2.VX, .int .i32 v500058.Players.2.VY, .int .u8 v500058.Players.2.Health, .int .u8 v500058.Players.2.Cool, .int .u8 v500058.Players.2.Face, .slice v500058a0 v500058n0 v500058c0, .int .u16 v500058.Score.1, .int .u16 v500058.Score.2]) (val_load tt_ok rfl (mR (mR (mR (mR (mR (mR (mR (mR (mR (mR mH)))))))))) rfl) rfl ?_)))))))
 obtain ⟨v1500124, x1500124, h⟩ := bsome h
 refine wl_run rfl (wl_cq Tryd.call13 rfl rfl rfl (q_pf (k_state_Put (p0 := (T_api_State.mk v500058.Frame v500058.Seed ((T_api_Player.mk (61441 : Int) v500058.Players.1.Y v500058.Players.1.VX v500058.Players.1.VY v500058.Players.1.Health v500058.Players.1.Cool v500058.Players.1.Face), v500058.Players.2) v500058.Shots v500058.Score)) v500058N0 (vec_cap v500058V0) x1500124) (fun w hI => ⟨(Rds.call (Rds.of_vec v500058V0) pNil ⟨_, (sAA (sAA (sAA hA')))⟩) w hI, (Rds.call G0S pNil rsub_nil) w hI, (Rds.call G1S pNil rsub_nil) w hI⟩)) rfl (wl_run rfl (wl_val (v := .bool (!(v1500124 == ([] : List UInt8)))) (val_sne tt_ok rfl rfl) rfl ?_)))
 obtain rfl := sI h
 have h := hg1500126; clear hg1500126
 refine wP (v := .bool (!(v1500124 == ([] : List UInt8)))) rfl rfl (wNT (wc_cond rfl (fun hc => ?_) (fun hc => ?_)))
 ·replace h := ct hc h
  refine wSR (wP rfl rfl (wNT (wc_ret (wx_block_ret (wx_then_ret (wx_then_ret (wx_block_ret (wx_then_ret ?_))))))))
  obtain rfl := sI h
  exact wx_pf tt_ok (.inl rfl) Tryd.results7 (Res.tmp rfl Res.nil) rfl
 replace h := cf hc h
 refine wc_skip (wx_block (wx_then (wc_region (wP rfl rfl (wP (v := .int .i64 (5 : Int)) rfl rfl (wP rfl rfl (wl_nil (wx_again (wr_step (wc_seq (wSR ?_)))))))))))
 iterate 2 refine wP rfl rfl ?_
 refine wP (v := .int .i64 (9 : Int)) rfl rfl (wP (v := .bool true) rfl rfl (wNT (wc_cond_true rfl (wc_skip (wx_then (wc_seq (wc_block (wSR ?_))))))))
 iterate 2 refine wP rfl rfl ?_
 refine wl_val (v := .pointer (some ⟨b49, 95, none⟩)) (val_ixb (j := 5) tt_ok rfl rfl rfl rfl rfl rfl rfl) rfl ?_
 refine wl_val (v := .agg #[.int .u64 v600058.Frame, .int .u64 v600058.Seed, .int .i32 v600058.Players.1.X, .int .i32 (-1 : Int), .int .i32 v600058.Players.1.VX, .int .i32 v600058.Players.1.VY, .int .u8 v600058.Players.1.Health, .int .u8 v600058.Players.1.Cool, .int .u8 v600058.Players.1.Face, .int .i32 v600058.Players.2.X, .int .i32 v600058.Players.2.Y, .int .i32 v600058.Players.2.VX, .int .i32 v600058.Players.2.VY, .int .u8 v600058.Players.2.Health, .int .u8 v600058.Players.2.Cool, .int .u8 v600058.Players.2.Face, .slice v600058a0 v600058n0 v600058c0, .int .u16 v600058.Score.1, .int .u16 v600058.Score.2]) (val_load tt_ok rfl (mR (mR (mR (mR (mR (mR (mR (mR (mR (mR mH)))))))))) rfl) rfl ?_
 obtain ⟨v1600117, x1600117, h⟩ := bsome h
 refine wl_cq Tryd.call11 rfl rfl rfl (q_pf (k_state_Check (p0 := (T_api_State.mk v600058.Frame v600058.Seed ((T_api_Player.mk v600058.Players.1.X (-1 : Int) v600058.Players.1.VX v600058.Players.1.VY v600058.Players.1.Health v600058.Players.1.Cool v600058.Players.1.Face), v600058.Players.2) v600058.Shots v600058.Score)) v600058N0 (vec_cap v600058V0) x1600117) (fun w hI => ⟨(Rds.call (Rds.of_vec v600058V0) pNil ⟨_, (sAA (sAA (sA hA')))⟩) w hI, (Rds.call G0S pNil rsub_nil) w hI, (Rds.call G1S pNil rsub_nil) w hI⟩)) rfl ?_
 refine wP (v := .bool (v1600117 != (4 : Int))) rfl rfl (wP rfl rfl ?_)
 obtain ⟨v1600126, h, hg1600126⟩ := bsome h
 refine wl_split (t := 119) rfl (fun hc => ?_) (fun hc => ?_)
 ·replace h := ct hc h
  iterate 6 refine wl_skip rfl rfl ?_
  obtain rfl := sI h
  have h := hg1600126; clear hg1600126
  refine wP (v := .bool true) rfl rfl (wNT ?_)
  replace h := ct rfl h
  refine wc_cond_true rfl ?_
  refine wSR (wP rfl rfl (wNT (wc_ret (wx_block_ret (wx_then_ret (wx_then_ret (wx_block_ret (wx_then_ret ?_))))))))
  obtain rfl := sI h
  exact wx_pf tt_ok (.inl rfl) Tryd.results7 (Res.tmp rfl Res.nil) rfl
 replace h := cf hc h
 refine wl_run rfl (wP rfl rfl (wl_run rfl (wP rfl rfl (wl_run rfl (wl_val (v := .pointer (some ⟨b49, 95, none⟩)) (val_ixb (j := 5) tt_ok rfl rfl rfl rfl rfl rfl rfl) rfl (wl_run rfl (wl_val (v := .agg #[.int .u64 v600058.Frame, .int .u64 v600058.Seed, .int .i32 v600058.Players.1.X, .int .i32 (-1 : Int), .int .i32 v600058.Players.1.VX, .int .i32 v600058.Players.1.VY, .int .u8 v600058.Players.1.Health, .int .u8 v600058.Players.1.Cool, .int .u8 v600058.Players.1.Face, .int .i32 v600058.Players.2.X, .int .i32 v600058.Players.2.Y, .int .i32 v600058.Players.2.VX, .int .i32 v600058.Players.2.VY, .int .u8 v600058.Players.2.Health, .int .u8 v600058.Players.2.Cool, .int .u8 v600058.Players.2.Face, .slice v600058a0 v600058n0 v600058c0, .int .u16 v600058.Score.1, .int .u16 v600058.Score.2]) (val_load tt_ok rfl (mR (mR (mR (mR (mR (mR (mR (mR (mR (mR mH)))))))))) rfl) rfl ?_)))))))
 obtain ⟨v1600124, x1600124, h⟩ := bsome h
 refine wl_run rfl (wl_cq Tryd.call13 rfl rfl rfl (q_pf (k_state_Put (p0 := (T_api_State.mk v600058.Frame v600058.Seed ((T_api_Player.mk v600058.Players.1.X (-1 : Int) v600058.Players.1.VX v600058.Players.1.VY v600058.Players.1.Health v600058.Players.1.Cool v600058.Players.1.Face), v600058.Players.2) v600058.Shots v600058.Score)) v600058N0 (vec_cap v600058V0) x1600124) (fun w hI => ⟨(Rds.call (Rds.of_vec v600058V0) pNil ⟨_, (sAA (sAA (sA hA')))⟩) w hI, (Rds.call G0S pNil rsub_nil) w hI, (Rds.call G1S pNil rsub_nil) w hI⟩)) rfl (wl_run rfl (wl_val (v := .bool (!(v1600124 == ([] : List UInt8)))) (val_sne tt_ok rfl rfl) rfl ?_)))
 obtain rfl := sI h
 have h := hg1600126; clear hg1600126
 refine wP (v := .bool (!(v1600124 == ([] : List UInt8)))) rfl rfl (wNT (wc_cond rfl (fun hc => ?_) (fun hc => ?_)))
 ·replace h := ct hc h
  refine wSR (wP rfl rfl (wNT (wc_ret (wx_block_ret (wx_then_ret (wx_then_ret (wx_block_ret (wx_then_ret ?_))))))))
  obtain rfl := sI h
  exact wx_pf tt_ok (.inl rfl) Tryd.results7 (Res.tmp rfl Res.nil) rfl
 replace h := cf hc h
 refine wc_skip (wx_block (wx_then (wc_region (wP rfl rfl (wP (v := .int .i64 (6 : Int)) rfl rfl (wP rfl rfl (wl_nil (wx_again (wr_step (wc_seq (wSR ?_)))))))))))
 iterate 2 refine wP rfl rfl ?_
 refine wP (v := .int .i64 (9 : Int)) rfl rfl (wP (v := .bool true) rfl rfl (wNT (wc_cond_true rfl (wc_skip (wx_then (wc_seq (wc_block (wSR ?_))))))))
 iterate 2 refine wP rfl rfl ?_
 refine wl_val (v := .pointer (some ⟨b49, 114, none⟩)) (val_ixb (j := 6) tt_ok rfl rfl rfl rfl rfl rfl rfl) rfl ?_
 refine wl_val (v := agS v700058 v700058a0 v700058n0 v700058c0) (val_load tt_ok rfl (mR (mR (mR (mR (mR (mR (mR (mR (mR (mR mH)))))))))) rfl) rfl ?_
 obtain ⟨v1700117, x1700117, h⟩ := bsome h
 refine wl_cq Tryd.call11 rfl rfl rfl (q_pf (k_state_Check (p0 := (T_api_State.mk v700058.Frame v700058.Seed v700058.Players (setI v700058.Shots (0 : Int) (T_api_Shot.mk v94.X v94.Y v94.VX (2049 : Int) v94.Owner v94.Life)) v700058.Score)) Ns43_6 (vec_cap Vs43_6) x1700117) (fun w hI => ⟨(Rds.call (Rds.of_vec Vs43_6) pNil ⟨_, (sA hA')⟩) w hI, (Rds.call G0S pNil rsub_nil) w hI, (Rds.call G1S pNil rsub_nil) w hI⟩)) rfl ?_
 refine wP (v := .bool (v1700117 != (4 : Int))) rfl rfl (wP rfl rfl ?_)
 obtain ⟨v1700126, h, hg1700126⟩ := bsome h
 refine wl_split (t := 119) rfl (fun hc => ?_) (fun hc => ?_)
 ·replace h := ct hc h
  iterate 6 refine wl_skip rfl rfl ?_
  obtain rfl := sI h
  have h := hg1700126; clear hg1700126
  refine wP (v := .bool true) rfl rfl (wNT ?_)
  replace h := ct rfl h
  refine wc_cond_true rfl ?_
  refine wSR (wP rfl rfl (wNT (wc_ret (wx_block_ret (wx_then_ret (wx_then_ret (wx_block_ret (wx_then_ret ?_))))))))
  obtain rfl := sI h
  exact wx_pf tt_ok (.inl rfl) Tryd.results7 (Res.tmp rfl Res.nil) rfl
 replace h := cf hc h
 refine wl_run rfl (wP rfl rfl (wl_run rfl (wP rfl rfl (wl_run rfl (wl_val (v := .pointer (some ⟨b49, 114, none⟩)) (val_ixb (j := 6) tt_ok rfl rfl rfl rfl rfl rfl rfl) rfl (wl_run rfl (wl_val (v := agS v700058 v700058a0 v700058n0 v700058c0) (val_load tt_ok rfl (mR (mR (mR (mR (mR (mR (mR (mR (mR (mR mH)))))))))) rfl) rfl ?_)))))))
 obtain ⟨v1700124, x1700124, h⟩ := bsome h
 refine wl_run rfl (wl_cq Tryd.call13 rfl rfl rfl (q_pf (k_state_Put (p0 := (T_api_State.mk v700058.Frame v700058.Seed v700058.Players (setI v700058.Shots (0 : Int) (T_api_Shot.mk v94.X v94.Y v94.VX (2049 : Int) v94.Owner v94.Life)) v700058.Score)) Ns43_6 (vec_cap Vs43_6) x1700124) (fun w hI => ⟨(Rds.call (Rds.of_vec Vs43_6) pNil ⟨_, (sA hA')⟩) w hI, (Rds.call G0S pNil rsub_nil) w hI, (Rds.call G1S pNil rsub_nil) w hI⟩)) rfl (wl_run rfl (wl_val (v := .bool (!(v1700124 == ([] : List UInt8)))) (val_sne tt_ok rfl rfl) rfl ?_)))
 obtain rfl := sI h
 have h := hg1700126; clear hg1700126
 refine wP (v := .bool (!(v1700124 == ([] : List UInt8)))) rfl rfl (wNT (wc_cond rfl (fun hc => ?_) (fun hc => ?_)))
 ·replace h := ct hc h
  refine wSR (wP rfl rfl (wNT (wc_ret (wx_block_ret (wx_then_ret (wx_then_ret (wx_block_ret (wx_then_ret ?_))))))))
  obtain rfl := sI h
  exact wx_pf tt_ok (.inl rfl) Tryd.results7 (Res.tmp rfl Res.nil) rfl
 replace h := cf hc h
 refine wc_skip (wx_block (wx_then (wc_region (wP rfl rfl (wP (v := .int .i64 (7 : Int)) rfl rfl (wP rfl rfl (wl_nil (wx_again (wr_step (wc_seq (wSR ?_)))))))))))
 iterate 2 refine wP rfl rfl ?_
 refine wP (v := .int .i64 (9 : Int)) rfl rfl (wP (v := .bool true) rfl rfl (wNT (wc_cond_true rfl (wc_skip (wx_then (wc_seq (wc_block (wSR ?_))))))))
 iterate 2 refine wP rfl rfl ?_
 refine wl_val (v := .pointer (some ⟨b49, 133, none⟩)) (val_ixb (j := 7) tt_ok rfl rfl rfl rfl rfl rfl rfl) rfl ?_
 refine wl_val (v := agS v800058 v800058a0 v800058n0 v800058c0) (val_load tt_ok rfl (mR (mR (mR (mR (mR (mR (mR (mR (mR (mR mH)))))))))) rfl) rfl ?_
 obtain ⟨v1800117, x1800117, h⟩ := bsome h
 refine wl_cq Tryd.call11 rfl rfl rfl (q_pf (k_state_Check (p0 := (T_api_State.mk v800058.Frame v800058.Seed v800058.Players (setI v800058.Shots (0 : Int) (T_api_Shot.mk v100.X v100.Y v100.VX v100.VY (2 : Int) v100.Life)) v800058.Score)) Ns45_6 (vec_cap Vs45_6) x1800117) (fun w hI => ⟨(Rds.call (Rds.of_vec Vs45_6) pNil ⟨_, hA'⟩) w hI, (Rds.call G0S pNil rsub_nil) w hI, (Rds.call G1S pNil rsub_nil) w hI⟩)) rfl ?_
 refine wP (v := .bool (v1800117 != (4 : Int))) rfl rfl (wP rfl rfl ?_)
 obtain ⟨v1800126, h, hg1800126⟩ := bsome h
 refine wl_split (t := 119) rfl (fun hc => ?_) (fun hc => ?_)
 ·replace h := ct hc h
  iterate 6 refine wl_skip rfl rfl ?_
  obtain rfl := sI h
  have h := hg1800126; clear hg1800126
  refine wP (v := .bool true) rfl rfl (wNT ?_)
  replace h := ct rfl h
  refine wc_cond_true rfl ?_
  refine wSR (wP rfl rfl (wNT (wc_ret (wx_block_ret (wx_then_ret (wx_then_ret (wx_block_ret (wx_then_ret ?_))))))))
  obtain rfl := sI h
  exact wx_pf tt_ok (.inl rfl) Tryd.results7 (Res.tmp rfl Res.nil) rfl
 replace h := cf hc h
 refine wl_run rfl (wP rfl rfl (wl_run rfl (wP rfl rfl (wl_run rfl (wl_val (v := .pointer (some ⟨b49, 133, none⟩)) (val_ixb (j := 7) tt_ok rfl rfl rfl rfl rfl rfl rfl) rfl (wl_run rfl (wl_val (v := agS v800058 v800058a0 v800058n0 v800058c0) (val_load tt_ok rfl (mR (mR (mR (mR (mR (mR (mR (mR (mR (mR mH)))))))))) rfl) rfl ?_)))))))
 obtain ⟨v1800124, x1800124, h⟩ := bsome h
 refine wl_run rfl (wl_cq Tryd.call13 rfl rfl rfl (q_pf (k_state_Put (p0 := (T_api_State.mk v800058.Frame v800058.Seed v800058.Players (setI v800058.Shots (0 : Int) (T_api_Shot.mk v100.X v100.Y v100.VX v100.VY (2 : Int) v100.Life)) v800058.Score)) Ns45_6 (vec_cap Vs45_6) x1800124) (fun w hI => ⟨(Rds.call (Rds.of_vec Vs45_6) pNil ⟨_, hA'⟩) w hI, (Rds.call G0S pNil rsub_nil) w hI, (Rds.call G1S pNil rsub_nil) w hI⟩)) rfl (wl_run rfl (wl_val (v := .bool (!(v1800124 == ([] : List UInt8)))) (val_sne tt_ok rfl rfl) rfl ?_)))
 obtain rfl := sI h
 have h := hg1800126; clear hg1800126
 refine wP (v := .bool (!(v1800124 == ([] : List UInt8)))) rfl rfl (wNT (wc_cond rfl (fun hc => ?_) (fun hc => ?_)))
 ·replace h := ct hc h
  refine wSR (wP rfl rfl (wNT (wc_ret (wx_block_ret (wx_then_ret (wx_then_ret (wx_block_ret (wx_then_ret ?_))))))))
  obtain rfl := sI h
  exact wx_pf tt_ok (.inl rfl) Tryd.results7 (Res.tmp rfl Res.nil) rfl
 replace h := cf hc h
 refine wc_skip (wx_block (wx_then (wc_region (wP rfl rfl (wP (v := .int .i64 (8 : Int)) rfl rfl (wP rfl rfl (wl_nil (wx_again (wr_step (wc_seq (wSR ?_)))))))))))
 iterate 2 refine wP rfl rfl ?_
 refine wP (v := .int .i64 (9 : Int)) rfl rfl (wP (v := .bool true) rfl rfl (wNT (wc_cond_true rfl (wc_skip (wx_then (wc_seq (wc_block (wSR ?_))))))))
 iterate 2 refine wP rfl rfl ?_
 refine wl_val (v := .pointer (some ⟨b49, 152, none⟩)) (val_ixb (j := 8) tt_ok rfl rfl rfl rfl rfl rfl rfl) rfl ?_
 refine wl_val (v := .agg #[.int .u64 v900058.Frame, .int .u64 v900058.Seed, .int .i32 v900058.Players.1.X, .int .i32 v900058.Players.1.Y, .int .i32 v900058.Players.1.VX, .int .i32 v900058.Players.1.VY, .int .u8 v900058.Players.1.Health, .int .u8 v900058.Players.1.Cool, .int .u8 v900058.Players.1.Face, .int .i32 v900058.Players.2.X, .int .i32 v900058.Players.2.Y, .int .i32 v900058.Players.2.VX, .int .i32 v900058.Players.2.VY, .int .u8 v900058.Players.2.Health, .int .u8 v900058.Players.2.Cool, .int .u8 (4 : Int), .slice v900058a0 v900058n0 v900058c0, .int .u16 v900058.Score.1, .int .u16 v900058.Score.2]) (val_load tt_ok rfl (mR (mR (mR (mR (mR (mR (mR (mR (mR (mR mH)))))))))) rfl) rfl ?_
 obtain ⟨v1900117, x1900117, h⟩ := bsome h
 refine wl_cq Tryd.call11 rfl rfl rfl (q_pf (k_state_Check (p0 := (T_api_State.mk v900058.Frame v900058.Seed (v900058.Players.1, (T_api_Player.mk v900058.Players.2.X v900058.Players.2.Y v900058.Players.2.VX v900058.Players.2.VY v900058.Players.2.Health v900058.Players.2.Cool (4 : Int))) v900058.Shots v900058.Score)) v900058N0 (vec_cap v900058V0) x1900117) (fun w hI => ⟨(Rds.call (Rds.of_vec v900058V0) pNil ⟨_, (sAA (sAA hA'))⟩) w hI, (Rds.call G0S pNil rsub_nil) w hI, (Rds.call G1S pNil rsub_nil) w hI⟩)) rfl ?_
 refine wP (v := .bool (v1900117 != (4 : Int))) rfl rfl (wP rfl rfl ?_)
 obtain ⟨v1900126, h, hg1900126⟩ := bsome h
 refine wl_split (t := 119) rfl (fun hc => ?_) (fun hc => ?_)
 ·replace h := ct hc h
  iterate 6 refine wl_skip rfl rfl ?_
  obtain rfl := sI h
  have h := hg1900126; clear hg1900126
  refine wP (v := .bool true) rfl rfl (wNT ?_)
  replace h := ct rfl h
  refine wc_cond_true rfl ?_
  refine wSR (wP rfl rfl (wNT (wc_ret (wx_block_ret (wx_then_ret (wx_then_ret (wx_block_ret (wx_then_ret ?_))))))))
  obtain rfl := sI h
  exact wx_pf tt_ok (.inl rfl) Tryd.results7 (Res.tmp rfl Res.nil) rfl
 replace h := cf hc h
 refine wl_run rfl (wP rfl rfl (wl_run rfl (wP rfl rfl (wl_run rfl (wl_val (v := .pointer (some ⟨b49, 152, none⟩)) (val_ixb (j := 8) tt_ok rfl rfl rfl rfl rfl rfl rfl) rfl (wl_run rfl (wl_val (v := .agg #[.int .u64 v900058.Frame, .int .u64 v900058.Seed, .int .i32 v900058.Players.1.X, .int .i32 v900058.Players.1.Y, .int .i32 v900058.Players.1.VX, .int .i32 v900058.Players.1.VY, .int .u8 v900058.Players.1.Health, .int .u8 v900058.Players.1.Cool, .int .u8 v900058.Players.1.Face, .int .i32 v900058.Players.2.X, .int .i32 v900058.Players.2.Y, .int .i32 v900058.Players.2.VX, .int .i32 v900058.Players.2.VY, .int .u8 v900058.Players.2.Health, .int .u8 v900058.Players.2.Cool, .int .u8 (4 : Int), .slice v900058a0 v900058n0 v900058c0, .int .u16 v900058.Score.1, .int .u16 v900058.Score.2]) (val_load tt_ok rfl (mR (mR (mR (mR (mR (mR (mR (mR (mR (mR mH)))))))))) rfl) rfl ?_)))))))
 obtain ⟨v1900124, x1900124, h⟩ := bsome h
 refine wl_run rfl (wl_cq Tryd.call13 rfl rfl rfl (q_pf (k_state_Put (p0 := (T_api_State.mk v900058.Frame v900058.Seed (v900058.Players.1, (T_api_Player.mk v900058.Players.2.X v900058.Players.2.Y v900058.Players.2.VX v900058.Players.2.VY v900058.Players.2.Health v900058.Players.2.Cool (4 : Int))) v900058.Shots v900058.Score)) v900058N0 (vec_cap v900058V0) x1900124) (fun w hI => ⟨(Rds.call (Rds.of_vec v900058V0) pNil ⟨_, (sAA (sAA hA'))⟩) w hI, (Rds.call G0S pNil rsub_nil) w hI, (Rds.call G1S pNil rsub_nil) w hI⟩)) rfl (wl_run rfl (wl_val (v := .bool (!(v1900124 == ([] : List UInt8)))) (val_sne tt_ok rfl rfl) rfl ?_)))
 obtain rfl := sI h
 have h := hg1900126; clear hg1900126
 refine wP (v := .bool (!(v1900124 == ([] : List UInt8)))) rfl rfl (wNT (wc_cond rfl (fun hc => ?_) (fun hc => ?_)))
 ·replace h := ct hc h
  refine wSR (wP rfl rfl (wNT (wc_ret (wx_block_ret (wx_then_ret (wx_then_ret (wx_block_ret (wx_then_ret ?_))))))))
  obtain rfl := sI h
  exact wx_pf tt_ok (.inl rfl) Tryd.results7 (Res.tmp rfl Res.nil) rfl
 replace h := cf hc h
 refine wc_skip (wx_block (wx_then (wc_region (wP rfl rfl (wP (v := .int .i64 (9 : Int)) rfl rfl (wP rfl rfl (wl_nil (wx_again (wr_step (wc_seq (wSR ?_)))))))))))
 iterate 2 refine wP rfl rfl ?_
 refine wP (v := .int .i64 (9 : Int)) rfl rfl (wP (v := .bool false) rfl rfl (wNT (wc_cond_false rfl (wc_exit (wx_then_exit (wx_then_exit (wx_block_exit (wx_then (wSR ?_)))))))))
 obtain ⟨v127, x127, h⟩ := bsome h
 refine wl_cs Tryd.call23 rfl rfl rfl (s_sp (k_hindcastlaw08_first x127) pNil (fun _ _ => trivial)) rfl ?_
 rintro _ _ ⟨_, ⟨v127a0, v127n0, v127c0, v127B0, v127N0, v127V0, rfl, rfl⟩, rfl⟩
 refine wl_alloc tt_ok rfl rfl (fun b5 => ?_)
 apply wl_store tt_ok; rfl; exact Upd.here; rfl; rfl; rfl; rfl; rfl; rfl
 refine wNT (wSR (wP (v := .agg #[.int .i32 (61440 : Int), .int .i32 (28672 : Int), .int .i32 (-1024 : Int), .int .i32 (1024 : Int), .int .u8 (1 : Int), .int .u8 (30 : Int), .int .u8 (3 : Int)]) rfl rfl (wP (v := .pointer (some ⟨b5, 2, none⟩)) rfl rfl (wl_val (v := .pointer (some ⟨b5, 2, none⟩)) (val_ia (j := 0) tt_ok rfl rfl rfl rfl rfl rfl rfl) rfl ?_))))
 apply wl_store tt_ok; rfl; exact Upd.here; rfl; rfl; rfl; rfl; rfl; rfl
 refine wNT (wSR (wP (v := .pointer (some ⟨b5, 16, none⟩)) rfl rfl (wl_val (v := .slice v127a0 v127n0 v127c0) (val_load tt_ok rfl mH rfl) rfl (wP (v := .agg #[.int .i32 (65024 : Int), .int .i32 (32256 : Int), .int .i32 (2048 : Int), .int .i32 (-2048 : Int), .int .u8 (0 : Int), .int .u8 (1 : Int)]) rfl rfl ?_))))
 obtain ⟨v134, x134, h⟩ := bsome h
 refine wl_val (v := .pointer (some ((adOf v127a0).add ((0 : Int).toNat * 6 + 0)))) (val_ix (enc := c_T_api_Shot) tt_ok rfl rfl rfl rfl v127N0 (Rds.of_vec v127V0) c_T_api_Shot_len rfl x134) rfl ?_
 refine wl_chg0 (chg_ste (enc := c_T_api_Shot) (y' := (T_api_Shot.mk (65024 : Int) (32256 : Int) (2048 : Int) (-2048 : Int) (0 : Int) (1 : Int))) tt_ok rfl rfl rfl rfl rfl rfl v127N0 v127V0 (sC hA') c_T_api_Shot_len x134 rfl (by intro h; cases h)) ?_
 rintro _ _ ⟨Bs74_4, Ns74_4, Vs74_4, rfl⟩
 refine wNT (wSR (wP (v := .pointer (some ⟨b5, 17, none⟩)) rfl rfl (wl_val (v := .pointer (some ⟨b5, 17, none⟩)) (val_ia (j := 0) tt_ok rfl rfl rfl rfl rfl rfl rfl) rfl ?_)))
 apply wl_store tt_ok; rfl; exact (Upd.right Upd.here); rfl; rfl; rfl; rfl; rfl; rfl
 refine wNT (wSR (wP (v := .pointer (some ⟨b5, 0, none⟩)) rfl rfl ?_))
 apply wl_store tt_ok; rfl; exact (Upd.right Upd.here); rfl; rfl; rfl; rfl; rfl; rfl
 refine wNT (wSR ?_)
 obtain ⟨v138, x138, h⟩ := bsome h
 refine wl_cs Tryd.call16 rfl rfl rfl (s_sp (k_state_Start x138) pNil (fun _ _ => trivial)) rfl ?_
 rintro _ _ ⟨_, ⟨v138a0, v138n0, v138c0, v138B0, v138N0, v138V0, rfl, rfl⟩, rfl⟩
 obtain ⟨v139, x139, h⟩ := bsome h
 refine wl_cq Tryd.call13 rfl rfl rfl (q_pf (k_state_Put (p0 := v138) v138N0 (vec_cap v138V0) x139) (fun w hI => ⟨(Rds.call (Rds.of_vec v138V0) pNil ⟨_, hA'⟩) w hI, (Rds.call G0S pNil rsub_nil) w hI, (Rds.call G1S pNil rsub_nil) w hI⟩)) rfl ?_
 obtain ⟨v140, x140, h⟩ := bsome h
 refine wl_val (v := .string ⟨v140.toArray⟩) (val_ss tt_ok rfl rfl (.inl ⟨rfl, rfl⟩) (.inr ⟨_, _, rfl, rfl⟩) x140) rfl ?_
 obtain ⟨v141, x141, h⟩ := bsome h
 refine wl_val (v := .string ⟨v141.toArray⟩) (val_cat tt_ok rfl rfl x141) rfl ?_
 refine wP rfl rfl (wNT (wSR (wl_val (v := .agg #[.int .u64 (18446744073709551615 : Int), .int .u64 v127.Seed, .int .i32 (61440 : Int), .int .i32 (28672 : Int), .int .i32 (-1024 : Int), .int .i32 (1024 : Int), .int .u8 (1 : Int), .int .u8 (30 : Int), .int .u8 (3 : Int), .int .i32 v127.Players.2.X, .int .i32 v127.Players.2.Y, .int .i32 v127.Players.2.VX, .int .i32 v127.Players.2.VY, .int .u8 v127.Players.2.Health, .int .u8 v127.Players.2.Cool, .int .u8 v127.Players.2.Face, .slice v127a0 v127n0 v127c0, .int .u16 (65535 : Int), .int .u16 v127.Score.2]) (val_load tt_ok rfl (mR (mR mH)) rfl) rfl ?_)))
 obtain ⟨v144, x144, h⟩ := bsome h
 refine wl_cq Tryd.call13 rfl rfl rfl (q_pf (k_state_Put (p0 := (T_api_State.mk (18446744073709551615 : Int) v127.Seed ((T_api_Player.mk (61440 : Int) (28672 : Int) (-1024 : Int) (1024 : Int) (1 : Int) (30 : Int) (3 : Int)), v127.Players.2) (setI v127.Shots (0 : Int) (T_api_Shot.mk (65024 : Int) (32256 : Int) (2048 : Int) (-2048 : Int) (0 : Int) (1 : Int))) ((65535 : Int), v127.Score.2))) Ns74_4 (vec_cap Vs74_4) x144) (fun w hI => ⟨(Rds.call (Rds.of_vec Vs74_4) pNil ⟨_, (sA hA')⟩) w hI, (Rds.call G0S pNil rsub_nil) w hI, (Rds.call G1S pNil rsub_nil) w hI⟩)) rfl ?_
 replace h := bsome h; obtain ⟨⟨za, zg⟩, x145, h⟩ := h; try dsimp only at h
 refine wl_cs Tryd.call18 rfl rfl rfl (s_sp (k_state_Take x145) pNil (fun w hI => ⟨(Rds.call G0S pNil rsub_nil) w hI, (Rds.call G1S pNil rsub_nil) w hI⟩)) rfl ?_
 rintro _ _ ⟨_, ⟨zd, zf, ze, zh, zc, zb, rfl, rfl⟩, rfl⟩
 iterate 3 refine wP rfl rfl ?_
 refine wl_alloc tt_ok rfl rfl (fun b7 => ?_)
 apply wl_store tt_ok; rfl; exact Upd.here; rfl; rfl; rfl; rfl; rfl; rfl
 refine wP rfl rfl (wNT (wSR (wP rfl rfl (wP (v := .bool (zg == (0 : Int))) rfl rfl (wP rfl rfl ?_)))))
 obtain ⟨v154, h, hg154⟩ := bsome h
 refine wl_split (t := 150) rfl (fun hc => ?_) (fun hc => ?_)
 ·replace h := ct hc h
  refine wl_run rfl (wl_val (v := agS za zd zf ze) (val_load tt_ok rfl mH rfl) rfl (wl_run rfl (wl_val (v := .agg #[.int .u64 (18446744073709551615 : Int), .int .u64 v127.Seed, .int .i32 (61440 : Int), .int .i32 (28672 : Int), .int .i32 (-1024 : Int), .int .i32 (1024 : Int), .int .u8 (1 : Int), .int .u8 (30 : Int), .int .u8 (3 : Int), .int .i32 v127.Players.2.X, .int .i32 v127.Players.2.Y, .int .i32 v127.Players.2.VX, .int .i32 v127.Players.2.VY, .int .u8 v127.Players.2.Health, .int .u8 v127.Players.2.Cool, .int .u8 v127.Players.2.Face, .slice v127a0 v127n0 v127c0, .int .u16 (65535 : Int), .int .u16 v127.Score.2]) (val_load tt_ok rfl (mT (mR (mR (mR mH)))) rfl) rfl ?_)))
  obtain ⟨v153, x153, h⟩ := bsome h
  refine wl_run rfl (wl_cq Tryd.call21 rfl rfl rfl (q_pf (k_state_Same (p0 := za) (p1 := (T_api_State.mk (18446744073709551615 : Int) v127.Seed ((T_api_Player.mk (61440 : Int) (28672 : Int) (-1024 : Int) (1024 : Int) (1 : Int) (30 : Int) (3 : Int)), v127.Players.2) (setI v127.Shots (0 : Int) (T_api_Shot.mk (65024 : Int) (32256 : Int) (2048 : Int) (-2048 : Int) (0 : Int) (1 : Int))) ((65535 : Int), v127.Score.2))) zc (vec_cap zb) Ns74_4 (vec_cap Vs74_4) x153) (fun w hI => ⟨(Rds.call (Rds.of_vec zb) pNil ⟨_, (sC hA')⟩) w hI, (Rds.call (Rds.of_vec Vs74_4) pNil ⟨_, (sC (sAA hA'))⟩) w hI⟩)) rfl ?_)
  obtain rfl := sI h
  have h := hg154; clear hg154
  refine wP (v := .bool v153) rfl rfl (wP rfl rfl ?_)
  obtain ⟨v158, h, hg158⟩ := bsome h
  refine wl_split (t := 155) rfl (fun hc => ?_) (fun hc => ?_)
  ·replace h := ct hc h
   refine wl_run rfl (wP rfl rfl ?_)
   obtain ⟨v157, x157, h⟩ := bsome h
   refine wl_run rfl (wl_cq Tryd.call22 rfl rfl rfl (q_pf (k_hindcastlaw08_fails x157) (fun w hI => ⟨(Rds.call G0S pNil rsub_nil) w hI, (Rds.call G1S pNil rsub_nil) w hI⟩)) rfl ?_)
   obtain rfl := sI h
   have h := hg158; clear hg158
   refine wP (v := .bool v157) rfl rfl (wP rfl rfl ?_)
   obtain ⟨v161, h, hg161⟩ := bsome h
   refine wl_split (t := 159) rfl (fun hc => ?_) (fun hc => ?_)
   ·replace h := ct hc h
    obtain ⟨v160, x160, h⟩ := bsome h
    refine wl_run rfl (wl_cq Tryd.call9 rfl rfl rfl (q_pf (k_hindcastlaw08_works x160) (fun w hI => ⟨(Rds.call G0S pNil rsub_nil) w hI, (Rds.call G1S pNil rsub_nil) w hI⟩)) rfl ?_)
    obtain rfl := sI h
    have h := hg161; clear hg161
    refine wP (v := .bool v160) rfl rfl (wP rfl rfl (wNT (wc_ret ?_)))
    obtain rfl := sI h
    exact wx_pf tt_ok (.inl rfl) Tryd.results7 (Res.tmp rfl Res.nil) rfl
   replace h := cf hc h
   refine wl_skip rfl rfl ?_
   obtain rfl := sI h
   have h := hg161; clear hg161
   refine wP (v := .bool false) rfl rfl (wP rfl rfl (wNT (wc_ret ?_)))
   obtain rfl := sI h
   exact wx_pf tt_ok (.inl rfl) Tryd.results7 (Res.tmp rfl Res.nil) rfl
  replace h := cf hc h
  iterate 2 refine wl_skip rfl rfl ?_
  obtain rfl := sI h
  have h := hg158; clear hg158
  refine wP (v := .bool false) rfl rfl (wP rfl rfl ?_)
  obtain ⟨v161, h, hg161⟩ := bsome h
  replace h := cf rfl h
  refine wl_skip rfl rfl ?_
  obtain rfl := sI h
  have h := hg161; clear hg161
  refine wP (v := .bool false) rfl rfl (wP rfl rfl (wNT (wc_ret ?_)))
  obtain rfl := sI h
  exact wx_pf tt_ok (.inl rfl) Tryd.results7 (Res.tmp rfl Res.nil) rfl
 replace h := cf hc h
 iterate 3 refine wl_skip rfl rfl ?_
 obtain rfl := sI h
 have h := hg154; clear hg154
 refine wP (v := .bool false) rfl rfl (wP rfl rfl ?_)
 obtain ⟨v158, h, hg158⟩ := bsome h
 replace h := cf rfl h
 iterate 2 refine wl_skip rfl rfl ?_
 obtain rfl := sI h
 have h := hg158; clear hg158
 refine wP (v := .bool false) rfl rfl (wP rfl rfl ?_)
 obtain ⟨v161, h, hg161⟩ := bsome h
 replace h := cf rfl h
 refine wl_skip rfl rfl ?_
 obtain rfl := sI h
 have h := hg161; clear hg161
 refine wP (v := .bool false) rfl rfl (wP rfl rfl (wNT (wc_ret ?_)))
 obtain rfl := sI h
 exact wx_pf tt_ok (.inl rfl) Tryd.results7 (Res.tmp rfl Res.nil) rfl

end Go.Proofs.YtekplmhmppdpcaaDoor
