/-
  May of a request. For every request.
-/
import Derived.Test.YtlmhakmoioogaaaGreatEconTotalM5
import Derived.Test.YtlmhakmoioogaaaGreatEconTotalM23
set_option maxHeartbeats 16000000
set_option linter.unusedSimpArgs false
set_option linter.unusedVariables false
section
namespace Go.Proofs.YtlmhakmoioogaaaGreat
open Go.RowKit Go.Sl
section
variable (kd cl sq : Int) (ak aw tk tw : ByteArray) (it ct pr : Int) (bu : Bool) (i : Int) (W w : World) (R : List HP)
set_option maxRecDepth 100000 in
theorem mayO_spec (hS : St W R w) :
    Calls Tryz.prog 85 #[oV kd cl sq ak aw tk tw it ct pr bu i] w fun e w' => e = .returned (.bool (mayO ⟨kd, cl, sq, ak, aw, tk, tw, it, ct, pr, bu, i⟩)) ∧ St W R w' := by
  go_enter Tryz.func85, Tryz.ntmps85
  by_cases hk : kd = 1 ∨ kd = 2 ∨ kd = 3 ∨ kd = 4 ∨ kd = 5 ∨ kd = 6 ∨ kd = 7
  case neg =>
    have e : mayO ⟨kd, cl, sq, ak, aw, tk, tw, it, ct, pr, bu, i⟩ = false := by
      unfold mayO kindB
      simp only [not_or] at hk
      obtain ⟨k1, k2, k3, k4, k5, k6, k7⟩ := hk
      simp [k1, k2, k3, k4, k5, k6, k7]
    rw [e]
    by_cases h0 : kd < 0
    · go_wp2_with (first | go_big_skip | (refine zbx hS ?_; clear hS; intro b w hS) | (refine zal hS ?_; clear hS; intro b2 w hS) | (refine zsN hS ?_; clear hS; intro w hS) | (refine zl1 hS ?_) | ((with_reducible apply wl_eqF); (with_reducible rfl); rfl; rfl; rfl; rfl; exact Tryz.underlying206; (refine frS ?_)))
      go_ret
      exact ⟨rfl, hS.drop.drop⟩
    · have d0 : decide (kd < 0) = false := by simpa using h0
      by_cases h8 : 8 ≤ kd
      · go_wp2_with (first | go_big_skip | (refine zbx hS ?_; clear hS; intro b w hS) | (refine zal hS ?_; clear hS; intro b2 w hS) | (refine zsN hS ?_; clear hS; intro w hS) | (refine zl1 hS ?_) | ((with_reducible apply wl_eqF); (with_reducible rfl); rfl; rfl; rfl; rfl; exact Tryz.underlying206; (refine frS ?_)))
        go_ret
        exact ⟨rfl, hS.drop.drop⟩
      · obtain rfl : kd = 0 := by omega
        clear d0 h0 h8 hk e
        go_wp2_with (first | go_big_skip | (refine zbx hS ?_; clear hS; intro b w hS) | (refine zal hS ?_; clear hS; intro b2 w hS) | (refine zsN hS ?_; clear hS; intro w hS) | (refine zl1 hS ?_) | ((with_reducible apply wl_eqF); (with_reducible rfl); rfl; rfl; rfl; rfl; exact Tryz.underlying206; (refine frS ?_)))
        go_ret
        exact ⟨rfl, hS.drop.drop⟩
  by_cases h1 : 1 ≤ cl
  case neg =>
    have d1 : decide (1 ≤ cl) = false := by simpa using h1
    have e : mayO ⟨kd, cl, sq, ak, aw, tk, tw, it, ct, pr, bu, i⟩ = false := by unfold mayO headB; simp [h1]
    rw [e]
    clear e
    rcases hk with rfl | rfl | rfl | rfl | rfl | rfl | rfl
    all_goals
      go_wp2_with (first | go_big_skip | (refine zbx hS ?_; clear hS; intro b w hS) | (refine zal hS ?_; clear hS; intro b2 w hS) | (refine zsN hS ?_; clear hS; intro w hS) | (refine zl1 hS ?_) | ((with_reducible apply wl_eqF); (with_reducible rfl); rfl; rfl; rfl; rfl; exact Tryz.underlying206; (refine frS ?_)))
      refine wp_region_reads (by kernel_rfl) (by kernel_rfl) hS ?_
      repeat (first | go_big_quiet_skip | (refine zq1 ?_) | (refine zqN ?_) | (refine zqN ?_ (hc := by first | exact Cells.here (vs := [.string ak, .string aw]) rfl | exact Cells.there (Cells.here (vs := [.string ak, .string aw]) rfl))) | (apply wq_call; rfl; (intro w; apply exec_callF; (with_reducible rfl); decide +kernel; (focus (simp only [fD, List.map_cons, List.map_nil, Act.eval, fE, fF, fG, fH, Option.getD_some]; try rfl))); (intro w hS; exact isPl_at hp W w _ hS); (refine frS ?_)) | (apply wq_call; rfl; (intro w; apply exec_callT; (with_reducible rfl); rfl; decide +kernel; (focus (simp only [fD, List.map_cons, List.map_nil, Act.eval, fE, fF, fG, fH, Option.getD_some]; try rfl))); (intro w hS; exact counts_spec _ _ _ _ _ _ _ _ _ _ _ _ W w _ hS); (refine frS ?_)) | (apply wq_call; rfl; (intro w; apply exec_callT; (with_reducible rfl); rfl; decide +kernel; (focus (simp only [fD, List.map_cons, List.map_nil, Act.eval, fE, fF, fG, fH, Option.getD_some]; try rfl))); (intro w hS; exact sends_spec _ _ _ _ _ _ _ _ _ _ _ _ W w _ hS); (refine frS ?_)) | (apply wq_call; rfl; (intro w; apply exec_callT; (with_reducible rfl); rfl; decide +kernel; (focus (simp only [fD, List.map_cons, List.map_nil, Act.eval, fE, fF, fG, fH, Option.getD_some]; try rfl))); (intro w hS; exact orders_spec _ _ _ _ _ _ _ _ _ _ _ _ W w _ hS); (refine frS ?_)) | (apply wq_call; rfl; (intro w; apply exec_callT; (with_reducible rfl); rfl; decide +kernel; (focus (simp only [fD, List.map_cons, List.map_nil, Act.eval, fE, fF, fG, fH, Option.getD_some]; try rfl))); (intro w hS; exact cancels_spec _ _ _ _ _ _ _ _ _ _ _ _ W w _ hS); (refine frS ?_)) | (apply wq_call; rfl; (intro w; apply exec_callT; (with_reducible rfl); rfl; decide +kernel; (focus (simp only [fD, List.map_cons, List.map_nil, Act.eval, fE, fF, fG, fH, Option.getD_some]; try rfl))); (intro w hS; exact bare_spec _ _ _ _ _ _ _ _ _ _ _ _ W w _ hS); (refine frS ?_)) | (refine wq_pure rfl rfl ?_; intro K hK; go_big_quiet_op; go_big_quiet_on))
      clear hS
      intro w hS
      go_wp2_with fail
      go_ret
      exact ⟨rfl, hS.drop.drop⟩
  by_cases h2 : cl ≤ 1048576
  case neg =>
    have d2 : decide (cl ≤ 1048576) = false := by simpa using h2
    have e : mayO ⟨kd, cl, sq, ak, aw, tk, tw, it, ct, pr, bu, i⟩ = false := by unfold mayO headB; simp [h2]
    rw [e]
    clear e
    rcases hk with rfl | rfl | rfl | rfl | rfl | rfl | rfl
    all_goals
      go_wp2_with (first | go_big_skip | (refine zbx hS ?_; clear hS; intro b w hS) | (refine zal hS ?_; clear hS; intro b2 w hS) | (refine zsN hS ?_; clear hS; intro w hS) | (refine zl1 hS ?_) | ((with_reducible apply wl_eqF); (with_reducible rfl); rfl; rfl; rfl; rfl; exact Tryz.underlying206; (refine frS ?_)))
      refine wp_region_reads (by kernel_rfl) (by kernel_rfl) hS ?_
      repeat (first | go_big_quiet_skip | (refine zq1 ?_) | (refine zqN ?_) | (refine zqN ?_ (hc := by first | exact Cells.here (vs := [.string ak, .string aw]) rfl | exact Cells.there (Cells.here (vs := [.string ak, .string aw]) rfl))) | (apply wq_call; rfl; (intro w; apply exec_callF; (with_reducible rfl); decide +kernel; (focus (simp only [fD, List.map_cons, List.map_nil, Act.eval, fE, fF, fG, fH, Option.getD_some]; try rfl))); (intro w hS; exact isPl_at hp W w _ hS); (refine frS ?_)) | (apply wq_call; rfl; (intro w; apply exec_callT; (with_reducible rfl); rfl; decide +kernel; (focus (simp only [fD, List.map_cons, List.map_nil, Act.eval, fE, fF, fG, fH, Option.getD_some]; try rfl))); (intro w hS; exact counts_spec _ _ _ _ _ _ _ _ _ _ _ _ W w _ hS); (refine frS ?_)) | (apply wq_call; rfl; (intro w; apply exec_callT; (with_reducible rfl); rfl; decide +kernel; (focus (simp only [fD, List.map_cons, List.map_nil, Act.eval, fE, fF, fG, fH, Option.getD_some]; try rfl))); (intro w hS; exact sends_spec _ _ _ _ _ _ _ _ _ _ _ _ W w _ hS); (refine frS ?_)) | (apply wq_call; rfl; (intro w; apply exec_callT; (with_reducible rfl); rfl; decide +kernel; (focus (simp only [fD, List.map_cons, List.map_nil, Act.eval, fE, fF, fG, fH, Option.getD_some]; try rfl))); (intro w hS; exact orders_spec _ _ _ _ _ _ _ _ _ _ _ _ W w _ hS); (refine frS ?_)) | (apply wq_call; rfl; (intro w; apply exec_callT; (with_reducible rfl); rfl; decide +kernel; (focus (simp only [fD, List.map_cons, List.map_nil, Act.eval, fE, fF, fG, fH, Option.getD_some]; try rfl))); (intro w hS; exact cancels_spec _ _ _ _ _ _ _ _ _ _ _ _ W w _ hS); (refine frS ?_)) | (apply wq_call; rfl; (intro w; apply exec_callT; (with_reducible rfl); rfl; decide +kernel; (focus (simp only [fD, List.map_cons, List.map_nil, Act.eval, fE, fF, fG, fH, Option.getD_some]; try rfl))); (intro w hS; exact bare_spec _ _ _ _ _ _ _ _ _ _ _ _ W w _ hS); (refine frS ?_)) | (refine wq_pure rfl rfl ?_; intro K hK; go_big_quiet_op; go_big_quiet_on))
      clear hS
      intro w hS
      go_wp2_with fail
      go_ret
      exact ⟨rfl, hS.drop.drop⟩
  by_cases h3 : 1 ≤ sq
  case neg =>
    have d3 : decide (1 ≤ sq) = false := by simpa using h3
    have e : mayO ⟨kd, cl, sq, ak, aw, tk, tw, it, ct, pr, bu, i⟩ = false := by unfold mayO headB; simp [h3]
    rw [e]
    clear e
    rcases hk with rfl | rfl | rfl | rfl | rfl | rfl | rfl
    all_goals
      go_wp2_with (first | go_big_skip | (refine zbx hS ?_; clear hS; intro b w hS) | (refine zal hS ?_; clear hS; intro b2 w hS) | (refine zsN hS ?_; clear hS; intro w hS) | (refine zl1 hS ?_) | ((with_reducible apply wl_eqF); (with_reducible rfl); rfl; rfl; rfl; rfl; exact Tryz.underlying206; (refine frS ?_)))
      refine wp_region_reads (by kernel_rfl) (by kernel_rfl) hS ?_
      repeat (first | go_big_quiet_skip | (refine zq1 ?_) | (refine zqN ?_) | (refine zqN ?_ (hc := by first | exact Cells.here (vs := [.string ak, .string aw]) rfl | exact Cells.there (Cells.here (vs := [.string ak, .string aw]) rfl))) | (apply wq_call; rfl; (intro w; apply exec_callF; (with_reducible rfl); decide +kernel; (focus (simp only [fD, List.map_cons, List.map_nil, Act.eval, fE, fF, fG, fH, Option.getD_some]; try rfl))); (intro w hS; exact isPl_at hp W w _ hS); (refine frS ?_)) | (apply wq_call; rfl; (intro w; apply exec_callT; (with_reducible rfl); rfl; decide +kernel; (focus (simp only [fD, List.map_cons, List.map_nil, Act.eval, fE, fF, fG, fH, Option.getD_some]; try rfl))); (intro w hS; exact counts_spec _ _ _ _ _ _ _ _ _ _ _ _ W w _ hS); (refine frS ?_)) | (apply wq_call; rfl; (intro w; apply exec_callT; (with_reducible rfl); rfl; decide +kernel; (focus (simp only [fD, List.map_cons, List.map_nil, Act.eval, fE, fF, fG, fH, Option.getD_some]; try rfl))); (intro w hS; exact sends_spec _ _ _ _ _ _ _ _ _ _ _ _ W w _ hS); (refine frS ?_)) | (apply wq_call; rfl; (intro w; apply exec_callT; (with_reducible rfl); rfl; decide +kernel; (focus (simp only [fD, List.map_cons, List.map_nil, Act.eval, fE, fF, fG, fH, Option.getD_some]; try rfl))); (intro w hS; exact orders_spec _ _ _ _ _ _ _ _ _ _ _ _ W w _ hS); (refine frS ?_)) | (apply wq_call; rfl; (intro w; apply exec_callT; (with_reducible rfl); rfl; decide +kernel; (focus (simp only [fD, List.map_cons, List.map_nil, Act.eval, fE, fF, fG, fH, Option.getD_some]; try rfl))); (intro w hS; exact cancels_spec _ _ _ _ _ _ _ _ _ _ _ _ W w _ hS); (refine frS ?_)) | (apply wq_call; rfl; (intro w; apply exec_callT; (with_reducible rfl); rfl; decide +kernel; (focus (simp only [fD, List.map_cons, List.map_nil, Act.eval, fE, fF, fG, fH, Option.getD_some]; try rfl))); (intro w hS; exact bare_spec _ _ _ _ _ _ _ _ _ _ _ _ W w _ hS); (refine frS ?_)) | (refine wq_pure rfl rfl ?_; intro K hK; go_big_quiet_op; go_big_quiet_on))
      clear hS
      intro w hS
      go_wp2_with fail
      go_ret
      exact ⟨rfl, hS.drop.drop⟩
  by_cases h4 : sq ≤ 1099511627776
  case neg =>
    have d4 : decide (sq ≤ 1099511627776) = false := by simpa using h4
    have e : mayO ⟨kd, cl, sq, ak, aw, tk, tw, it, ct, pr, bu, i⟩ = false := by unfold mayO headB; simp [h4]
    rw [e]
    clear e
    rcases hk with rfl | rfl | rfl | rfl | rfl | rfl | rfl
    all_goals
      go_wp2_with (first | go_big_skip | (refine zbx hS ?_; clear hS; intro b w hS) | (refine zal hS ?_; clear hS; intro b2 w hS) | (refine zsN hS ?_; clear hS; intro w hS) | (refine zl1 hS ?_) | ((with_reducible apply wl_eqF); (with_reducible rfl); rfl; rfl; rfl; rfl; exact Tryz.underlying206; (refine frS ?_)))
      refine wp_region_reads (by kernel_rfl) (by kernel_rfl) hS ?_
      repeat (first | go_big_quiet_skip | (refine zq1 ?_) | (refine zqN ?_) | (refine zqN ?_ (hc := by first | exact Cells.here (vs := [.string ak, .string aw]) rfl | exact Cells.there (Cells.here (vs := [.string ak, .string aw]) rfl))) | (apply wq_call; rfl; (intro w; apply exec_callF; (with_reducible rfl); decide +kernel; (focus (simp only [fD, List.map_cons, List.map_nil, Act.eval, fE, fF, fG, fH, Option.getD_some]; try rfl))); (intro w hS; exact isPl_at hp W w _ hS); (refine frS ?_)) | (apply wq_call; rfl; (intro w; apply exec_callT; (with_reducible rfl); rfl; decide +kernel; (focus (simp only [fD, List.map_cons, List.map_nil, Act.eval, fE, fF, fG, fH, Option.getD_some]; try rfl))); (intro w hS; exact counts_spec _ _ _ _ _ _ _ _ _ _ _ _ W w _ hS); (refine frS ?_)) | (apply wq_call; rfl; (intro w; apply exec_callT; (with_reducible rfl); rfl; decide +kernel; (focus (simp only [fD, List.map_cons, List.map_nil, Act.eval, fE, fF, fG, fH, Option.getD_some]; try rfl))); (intro w hS; exact sends_spec _ _ _ _ _ _ _ _ _ _ _ _ W w _ hS); (refine frS ?_)) | (apply wq_call; rfl; (intro w; apply exec_callT; (with_reducible rfl); rfl; decide +kernel; (focus (simp only [fD, List.map_cons, List.map_nil, Act.eval, fE, fF, fG, fH, Option.getD_some]; try rfl))); (intro w hS; exact orders_spec _ _ _ _ _ _ _ _ _ _ _ _ W w _ hS); (refine frS ?_)) | (apply wq_call; rfl; (intro w; apply exec_callT; (with_reducible rfl); rfl; decide +kernel; (focus (simp only [fD, List.map_cons, List.map_nil, Act.eval, fE, fF, fG, fH, Option.getD_some]; try rfl))); (intro w hS; exact cancels_spec _ _ _ _ _ _ _ _ _ _ _ _ W w _ hS); (refine frS ?_)) | (apply wq_call; rfl; (intro w; apply exec_callT; (with_reducible rfl); rfl; decide +kernel; (focus (simp only [fD, List.map_cons, List.map_nil, Act.eval, fE, fF, fG, fH, Option.getD_some]; try rfl))); (intro w hS; exact bare_spec _ _ _ _ _ _ _ _ _ _ _ _ W w _ hS); (refine frS ?_)) | (refine wq_pure rfl rfl ?_; intro K hK; go_big_quiet_op; go_big_quiet_on))
      clear hS
      intro w hS
      go_wp2_with fail
      go_ret
      exact ⟨rfl, hS.drop.drop⟩
  cases hp : plcB ak aw with
  | false =>
    skip
    have e : mayO ⟨kd, cl, sq, ak, aw, tk, tw, it, ct, pr, bu, i⟩ = false := by unfold mayO headB; simp [hp]
    rw [e]
    clear e
    rcases hk with rfl | rfl | rfl | rfl | rfl | rfl | rfl
    all_goals
      go_wp2_with (first | go_big_skip | (refine zbx hS ?_; clear hS; intro b w hS) | (refine zal hS ?_; clear hS; intro b2 w hS) | (refine zsN hS ?_; clear hS; intro w hS) | (refine zl1 hS ?_) | ((with_reducible apply wl_eqF); (with_reducible rfl); rfl; rfl; rfl; rfl; exact Tryz.underlying206; (refine frS ?_)))
      refine wp_region_reads (by kernel_rfl) (by kernel_rfl) hS ?_
      repeat (first | go_big_quiet_skip | (refine zq1 ?_) | (refine zqN ?_) | (refine zqN ?_ (hc := by first | exact Cells.here (vs := [.string ak, .string aw]) rfl | exact Cells.there (Cells.here (vs := [.string ak, .string aw]) rfl))) | (apply wq_call; rfl; (intro w; apply exec_callF; (with_reducible rfl); decide +kernel; (focus (simp only [fD, List.map_cons, List.map_nil, Act.eval, fE, fF, fG, fH, Option.getD_some]; try rfl))); (intro w hS; exact isPl_at hp W w _ hS); (refine frS ?_)) | (apply wq_call; rfl; (intro w; apply exec_callT; (with_reducible rfl); rfl; decide +kernel; (focus (simp only [fD, List.map_cons, List.map_nil, Act.eval, fE, fF, fG, fH, Option.getD_some]; try rfl))); (intro w hS; exact counts_spec _ _ _ _ _ _ _ _ _ _ _ _ W w _ hS); (refine frS ?_)) | (apply wq_call; rfl; (intro w; apply exec_callT; (with_reducible rfl); rfl; decide +kernel; (focus (simp only [fD, List.map_cons, List.map_nil, Act.eval, fE, fF, fG, fH, Option.getD_some]; try rfl))); (intro w hS; exact sends_spec _ _ _ _ _ _ _ _ _ _ _ _ W w _ hS); (refine frS ?_)) | (apply wq_call; rfl; (intro w; apply exec_callT; (with_reducible rfl); rfl; decide +kernel; (focus (simp only [fD, List.map_cons, List.map_nil, Act.eval, fE, fF, fG, fH, Option.getD_some]; try rfl))); (intro w hS; exact orders_spec _ _ _ _ _ _ _ _ _ _ _ _ W w _ hS); (refine frS ?_)) | (apply wq_call; rfl; (intro w; apply exec_callT; (with_reducible rfl); rfl; decide +kernel; (focus (simp only [fD, List.map_cons, List.map_nil, Act.eval, fE, fF, fG, fH, Option.getD_some]; try rfl))); (intro w hS; exact cancels_spec _ _ _ _ _ _ _ _ _ _ _ _ W w _ hS); (refine frS ?_)) | (apply wq_call; rfl; (intro w; apply exec_callT; (with_reducible rfl); rfl; decide +kernel; (focus (simp only [fD, List.map_cons, List.map_nil, Act.eval, fE, fF, fG, fH, Option.getD_some]; try rfl))); (intro w hS; exact bare_spec _ _ _ _ _ _ _ _ _ _ _ _ W w _ hS); (refine frS ?_)) | (refine wq_pure rfl rfl ?_; intro K hK; go_big_quiet_op; go_big_quiet_on))
      clear hS
      intro w hS
      go_wp2_with fail
      go_ret
      exact ⟨rfl, hS.drop.drop⟩
  | true =>
    have hh : (decide (1 ≤ cl) && (decide (cl ≤ 1048576) && (decide (1 ≤ sq) && (decide (sq ≤ 1099511627776) && plcB ak aw)))) = true := by simp [h1, h2, h3, h4, hp]
    rcases hk with rfl | rfl | rfl | rfl | rfl | rfl | rfl
    · skip
      have e : mayO ⟨1, cl, sq, ak, aw, tk, tw, it, ct, pr, bu, i⟩ = countsB ⟨1, cl, sq, ak, aw, tk, tw, it, ct, pr, bu, i⟩ := by unfold mayO; rw [show headB ⟨1, cl, sq, ak, aw, tk, tw, it, ct, pr, bu, i⟩ = true from hh]; rfl
      rw [e]
      clear e
      go_wp2_with (first | go_big_skip | (refine zbx hS ?_; clear hS; intro b w hS) | (refine zal hS ?_; clear hS; intro b2 w hS) | (refine zsN hS ?_; clear hS; intro w hS) | (refine zl1 hS ?_) | ((with_reducible apply wl_eqF); (with_reducible rfl); rfl; rfl; rfl; rfl; exact Tryz.underlying206; (refine frS ?_)))
      refine wp_region_reads (by kernel_rfl) (by kernel_rfl) hS ?_
      repeat (first | go_big_quiet_skip | (refine zq1 ?_) | (refine zqN ?_) | (refine zqN ?_ (hc := by first | exact Cells.here (vs := [.string ak, .string aw]) rfl | exact Cells.there (Cells.here (vs := [.string ak, .string aw]) rfl))) | (apply wq_call; rfl; (intro w; apply exec_callF; (with_reducible rfl); decide +kernel; (focus (simp only [fD, List.map_cons, List.map_nil, Act.eval, fE, fF, fG, fH, Option.getD_some]; try rfl))); (intro w hS; exact isPl_at hp W w _ hS); (refine frS ?_)) | (apply wq_call; rfl; (intro w; apply exec_callT; (with_reducible rfl); rfl; decide +kernel; (focus (simp only [fD, List.map_cons, List.map_nil, Act.eval, fE, fF, fG, fH, Option.getD_some]; try rfl))); (intro w hS; exact counts_spec _ _ _ _ _ _ _ _ _ _ _ _ W w _ hS); (refine frS ?_)) | (apply wq_call; rfl; (intro w; apply exec_callT; (with_reducible rfl); rfl; decide +kernel; (focus (simp only [fD, List.map_cons, List.map_nil, Act.eval, fE, fF, fG, fH, Option.getD_some]; try rfl))); (intro w hS; exact sends_spec _ _ _ _ _ _ _ _ _ _ _ _ W w _ hS); (refine frS ?_)) | (apply wq_call; rfl; (intro w; apply exec_callT; (with_reducible rfl); rfl; decide +kernel; (focus (simp only [fD, List.map_cons, List.map_nil, Act.eval, fE, fF, fG, fH, Option.getD_some]; try rfl))); (intro w hS; exact orders_spec _ _ _ _ _ _ _ _ _ _ _ _ W w _ hS); (refine frS ?_)) | (apply wq_call; rfl; (intro w; apply exec_callT; (with_reducible rfl); rfl; decide +kernel; (focus (simp only [fD, List.map_cons, List.map_nil, Act.eval, fE, fF, fG, fH, Option.getD_some]; try rfl))); (intro w hS; exact cancels_spec _ _ _ _ _ _ _ _ _ _ _ _ W w _ hS); (refine frS ?_)) | (apply wq_call; rfl; (intro w; apply exec_callT; (with_reducible rfl); rfl; decide +kernel; (focus (simp only [fD, List.map_cons, List.map_nil, Act.eval, fE, fF, fG, fH, Option.getD_some]; try rfl))); (intro w hS; exact bare_spec _ _ _ _ _ _ _ _ _ _ _ _ W w _ hS); (refine frS ?_)) | (refine wq_pure rfl rfl ?_; intro K hK; go_big_quiet_op; go_big_quiet_on))
      clear hS
      intro w hS
      go_wp2_with fail
      go_ret
      exact ⟨rfl, hS.drop.drop⟩
    · skip
      have e : mayO ⟨2, cl, sq, ak, aw, tk, tw, it, ct, pr, bu, i⟩ = sendsB ⟨2, cl, sq, ak, aw, tk, tw, it, ct, pr, bu, i⟩ := by unfold mayO; rw [show headB ⟨2, cl, sq, ak, aw, tk, tw, it, ct, pr, bu, i⟩ = true from hh]; rfl
      rw [e]
      clear e
      go_wp2_with (first | go_big_skip | (refine zbx hS ?_; clear hS; intro b w hS) | (refine zal hS ?_; clear hS; intro b2 w hS) | (refine zsN hS ?_; clear hS; intro w hS) | (refine zl1 hS ?_) | ((with_reducible apply wl_eqF); (with_reducible rfl); rfl; rfl; rfl; rfl; exact Tryz.underlying206; (refine frS ?_)))
      refine wp_region_reads (by kernel_rfl) (by kernel_rfl) hS ?_
      repeat (first | go_big_quiet_skip | (refine zq1 ?_) | (refine zqN ?_) | (refine zqN ?_ (hc := by first | exact Cells.here (vs := [.string ak, .string aw]) rfl | exact Cells.there (Cells.here (vs := [.string ak, .string aw]) rfl))) | (apply wq_call; rfl; (intro w; apply exec_callF; (with_reducible rfl); decide +kernel; (focus (simp only [fD, List.map_cons, List.map_nil, Act.eval, fE, fF, fG, fH, Option.getD_some]; try rfl))); (intro w hS; exact isPl_at hp W w _ hS); (refine frS ?_)) | (apply wq_call; rfl; (intro w; apply exec_callT; (with_reducible rfl); rfl; decide +kernel; (focus (simp only [fD, List.map_cons, List.map_nil, Act.eval, fE, fF, fG, fH, Option.getD_some]; try rfl))); (intro w hS; exact counts_spec _ _ _ _ _ _ _ _ _ _ _ _ W w _ hS); (refine frS ?_)) | (apply wq_call; rfl; (intro w; apply exec_callT; (with_reducible rfl); rfl; decide +kernel; (focus (simp only [fD, List.map_cons, List.map_nil, Act.eval, fE, fF, fG, fH, Option.getD_some]; try rfl))); (intro w hS; exact sends_spec _ _ _ _ _ _ _ _ _ _ _ _ W w _ hS); (refine frS ?_)) | (apply wq_call; rfl; (intro w; apply exec_callT; (with_reducible rfl); rfl; decide +kernel; (focus (simp only [fD, List.map_cons, List.map_nil, Act.eval, fE, fF, fG, fH, Option.getD_some]; try rfl))); (intro w hS; exact orders_spec _ _ _ _ _ _ _ _ _ _ _ _ W w _ hS); (refine frS ?_)) | (apply wq_call; rfl; (intro w; apply exec_callT; (with_reducible rfl); rfl; decide +kernel; (focus (simp only [fD, List.map_cons, List.map_nil, Act.eval, fE, fF, fG, fH, Option.getD_some]; try rfl))); (intro w hS; exact cancels_spec _ _ _ _ _ _ _ _ _ _ _ _ W w _ hS); (refine frS ?_)) | (apply wq_call; rfl; (intro w; apply exec_callT; (with_reducible rfl); rfl; decide +kernel; (focus (simp only [fD, List.map_cons, List.map_nil, Act.eval, fE, fF, fG, fH, Option.getD_some]; try rfl))); (intro w hS; exact bare_spec _ _ _ _ _ _ _ _ _ _ _ _ W w _ hS); (refine frS ?_)) | (refine wq_pure rfl rfl ?_; intro K hK; go_big_quiet_op; go_big_quiet_on))
      clear hS
      intro w hS
      go_wp2_with fail
      go_ret
      exact ⟨rfl, hS.drop.drop⟩
    · skip
      have e : mayO ⟨3, cl, sq, ak, aw, tk, tw, it, ct, pr, bu, i⟩ = ordersB ⟨3, cl, sq, ak, aw, tk, tw, it, ct, pr, bu, i⟩ := by unfold mayO; rw [show headB ⟨3, cl, sq, ak, aw, tk, tw, it, ct, pr, bu, i⟩ = true from hh]; rfl
      rw [e]
      clear e
      go_wp2_with (first | go_big_skip | (refine zbx hS ?_; clear hS; intro b w hS) | (refine zal hS ?_; clear hS; intro b2 w hS) | (refine zsN hS ?_; clear hS; intro w hS) | (refine zl1 hS ?_) | ((with_reducible apply wl_eqF); (with_reducible rfl); rfl; rfl; rfl; rfl; exact Tryz.underlying206; (refine frS ?_)))
      refine wp_region_reads (by kernel_rfl) (by kernel_rfl) hS ?_
      repeat (first | go_big_quiet_skip | (refine zq1 ?_) | (refine zqN ?_) | (refine zqN ?_ (hc := by first | exact Cells.here (vs := [.string ak, .string aw]) rfl | exact Cells.there (Cells.here (vs := [.string ak, .string aw]) rfl))) | (apply wq_call; rfl; (intro w; apply exec_callF; (with_reducible rfl); decide +kernel; (focus (simp only [fD, List.map_cons, List.map_nil, Act.eval, fE, fF, fG, fH, Option.getD_some]; try rfl))); (intro w hS; exact isPl_at hp W w _ hS); (refine frS ?_)) | (apply wq_call; rfl; (intro w; apply exec_callT; (with_reducible rfl); rfl; decide +kernel; (focus (simp only [fD, List.map_cons, List.map_nil, Act.eval, fE, fF, fG, fH, Option.getD_some]; try rfl))); (intro w hS; exact counts_spec _ _ _ _ _ _ _ _ _ _ _ _ W w _ hS); (refine frS ?_)) | (apply wq_call; rfl; (intro w; apply exec_callT; (with_reducible rfl); rfl; decide +kernel; (focus (simp only [fD, List.map_cons, List.map_nil, Act.eval, fE, fF, fG, fH, Option.getD_some]; try rfl))); (intro w hS; exact sends_spec _ _ _ _ _ _ _ _ _ _ _ _ W w _ hS); (refine frS ?_)) | (apply wq_call; rfl; (intro w; apply exec_callT; (with_reducible rfl); rfl; decide +kernel; (focus (simp only [fD, List.map_cons, List.map_nil, Act.eval, fE, fF, fG, fH, Option.getD_some]; try rfl))); (intro w hS; exact orders_spec _ _ _ _ _ _ _ _ _ _ _ _ W w _ hS); (refine frS ?_)) | (apply wq_call; rfl; (intro w; apply exec_callT; (with_reducible rfl); rfl; decide +kernel; (focus (simp only [fD, List.map_cons, List.map_nil, Act.eval, fE, fF, fG, fH, Option.getD_some]; try rfl))); (intro w hS; exact cancels_spec _ _ _ _ _ _ _ _ _ _ _ _ W w _ hS); (refine frS ?_)) | (apply wq_call; rfl; (intro w; apply exec_callT; (with_reducible rfl); rfl; decide +kernel; (focus (simp only [fD, List.map_cons, List.map_nil, Act.eval, fE, fF, fG, fH, Option.getD_some]; try rfl))); (intro w hS; exact bare_spec _ _ _ _ _ _ _ _ _ _ _ _ W w _ hS); (refine frS ?_)) | (refine wq_pure rfl rfl ?_; intro K hK; go_big_quiet_op; go_big_quiet_on))
      clear hS
      intro w hS
      go_wp2_with fail
      go_ret
      exact ⟨rfl, hS.drop.drop⟩
    · skip
      have e : mayO ⟨4, cl, sq, ak, aw, tk, tw, it, ct, pr, bu, i⟩ = cancelsB ⟨4, cl, sq, ak, aw, tk, tw, it, ct, pr, bu, i⟩ := by unfold mayO; rw [show headB ⟨4, cl, sq, ak, aw, tk, tw, it, ct, pr, bu, i⟩ = true from hh]; rfl
      rw [e]
      clear e
      go_wp2_with (first | go_big_skip | (refine zbx hS ?_; clear hS; intro b w hS) | (refine zal hS ?_; clear hS; intro b2 w hS) | (refine zsN hS ?_; clear hS; intro w hS) | (refine zl1 hS ?_) | ((with_reducible apply wl_eqF); (with_reducible rfl); rfl; rfl; rfl; rfl; exact Tryz.underlying206; (refine frS ?_)))
      refine wp_region_reads (by kernel_rfl) (by kernel_rfl) hS ?_
      repeat (first | go_big_quiet_skip | (refine zq1 ?_) | (refine zqN ?_) | (refine zqN ?_ (hc := by first | exact Cells.here (vs := [.string ak, .string aw]) rfl | exact Cells.there (Cells.here (vs := [.string ak, .string aw]) rfl))) | (apply wq_call; rfl; (intro w; apply exec_callF; (with_reducible rfl); decide +kernel; (focus (simp only [fD, List.map_cons, List.map_nil, Act.eval, fE, fF, fG, fH, Option.getD_some]; try rfl))); (intro w hS; exact isPl_at hp W w _ hS); (refine frS ?_)) | (apply wq_call; rfl; (intro w; apply exec_callT; (with_reducible rfl); rfl; decide +kernel; (focus (simp only [fD, List.map_cons, List.map_nil, Act.eval, fE, fF, fG, fH, Option.getD_some]; try rfl))); (intro w hS; exact counts_spec _ _ _ _ _ _ _ _ _ _ _ _ W w _ hS); (refine frS ?_)) | (apply wq_call; rfl; (intro w; apply exec_callT; (with_reducible rfl); rfl; decide +kernel; (focus (simp only [fD, List.map_cons, List.map_nil, Act.eval, fE, fF, fG, fH, Option.getD_some]; try rfl))); (intro w hS; exact sends_spec _ _ _ _ _ _ _ _ _ _ _ _ W w _ hS); (refine frS ?_)) | (apply wq_call; rfl; (intro w; apply exec_callT; (with_reducible rfl); rfl; decide +kernel; (focus (simp only [fD, List.map_cons, List.map_nil, Act.eval, fE, fF, fG, fH, Option.getD_some]; try rfl))); (intro w hS; exact orders_spec _ _ _ _ _ _ _ _ _ _ _ _ W w _ hS); (refine frS ?_)) | (apply wq_call; rfl; (intro w; apply exec_callT; (with_reducible rfl); rfl; decide +kernel; (focus (simp only [fD, List.map_cons, List.map_nil, Act.eval, fE, fF, fG, fH, Option.getD_some]; try rfl))); (intro w hS; exact cancels_spec _ _ _ _ _ _ _ _ _ _ _ _ W w _ hS); (refine frS ?_)) | (apply wq_call; rfl; (intro w; apply exec_callT; (with_reducible rfl); rfl; decide +kernel; (focus (simp only [fD, List.map_cons, List.map_nil, Act.eval, fE, fF, fG, fH, Option.getD_some]; try rfl))); (intro w hS; exact bare_spec _ _ _ _ _ _ _ _ _ _ _ _ W w _ hS); (refine frS ?_)) | (refine wq_pure rfl rfl ?_; intro K hK; go_big_quiet_op; go_big_quiet_on))
      clear hS
      intro w hS
      go_wp2_with fail
      go_ret
      exact ⟨rfl, hS.drop.drop⟩
    · skip
      have e : mayO ⟨5, cl, sq, ak, aw, tk, tw, it, ct, pr, bu, i⟩ = bareB ⟨5, cl, sq, ak, aw, tk, tw, it, ct, pr, bu, i⟩ := by unfold mayO; rw [show headB ⟨5, cl, sq, ak, aw, tk, tw, it, ct, pr, bu, i⟩ = true from hh]; rfl
      rw [e]
      clear e
      go_wp2_with (first | go_big_skip | (refine zbx hS ?_; clear hS; intro b w hS) | (refine zal hS ?_; clear hS; intro b2 w hS) | (refine zsN hS ?_; clear hS; intro w hS) | (refine zl1 hS ?_) | ((with_reducible apply wl_eqF); (with_reducible rfl); rfl; rfl; rfl; rfl; exact Tryz.underlying206; (refine frS ?_)))
      refine wp_region_reads (by kernel_rfl) (by kernel_rfl) hS ?_
      repeat (first | go_big_quiet_skip | (refine zq1 ?_) | (refine zqN ?_) | (refine zqN ?_ (hc := by first | exact Cells.here (vs := [.string ak, .string aw]) rfl | exact Cells.there (Cells.here (vs := [.string ak, .string aw]) rfl))) | (apply wq_call; rfl; (intro w; apply exec_callF; (with_reducible rfl); decide +kernel; (focus (simp only [fD, List.map_cons, List.map_nil, Act.eval, fE, fF, fG, fH, Option.getD_some]; try rfl))); (intro w hS; exact isPl_at hp W w _ hS); (refine frS ?_)) | (apply wq_call; rfl; (intro w; apply exec_callT; (with_reducible rfl); rfl; decide +kernel; (focus (simp only [fD, List.map_cons, List.map_nil, Act.eval, fE, fF, fG, fH, Option.getD_some]; try rfl))); (intro w hS; exact counts_spec _ _ _ _ _ _ _ _ _ _ _ _ W w _ hS); (refine frS ?_)) | (apply wq_call; rfl; (intro w; apply exec_callT; (with_reducible rfl); rfl; decide +kernel; (focus (simp only [fD, List.map_cons, List.map_nil, Act.eval, fE, fF, fG, fH, Option.getD_some]; try rfl))); (intro w hS; exact sends_spec _ _ _ _ _ _ _ _ _ _ _ _ W w _ hS); (refine frS ?_)) | (apply wq_call; rfl; (intro w; apply exec_callT; (with_reducible rfl); rfl; decide +kernel; (focus (simp only [fD, List.map_cons, List.map_nil, Act.eval, fE, fF, fG, fH, Option.getD_some]; try rfl))); (intro w hS; exact orders_spec _ _ _ _ _ _ _ _ _ _ _ _ W w _ hS); (refine frS ?_)) | (apply wq_call; rfl; (intro w; apply exec_callT; (with_reducible rfl); rfl; decide +kernel; (focus (simp only [fD, List.map_cons, List.map_nil, Act.eval, fE, fF, fG, fH, Option.getD_some]; try rfl))); (intro w hS; exact cancels_spec _ _ _ _ _ _ _ _ _ _ _ _ W w _ hS); (refine frS ?_)) | (apply wq_call; rfl; (intro w; apply exec_callT; (with_reducible rfl); rfl; decide +kernel; (focus (simp only [fD, List.map_cons, List.map_nil, Act.eval, fE, fF, fG, fH, Option.getD_some]; try rfl))); (intro w hS; exact bare_spec _ _ _ _ _ _ _ _ _ _ _ _ W w _ hS); (refine frS ?_)) | (refine wq_pure rfl rfl ?_; intro K hK; go_big_quiet_op; go_big_quiet_on))
      clear hS
      intro w hS
      go_wp2_with fail
      go_ret
      exact ⟨rfl, hS.drop.drop⟩
    · skip
      have e : mayO ⟨6, cl, sq, ak, aw, tk, tw, it, ct, pr, bu, i⟩ = countsB ⟨6, cl, sq, ak, aw, tk, tw, it, ct, pr, bu, i⟩ := by unfold mayO; rw [show headB ⟨6, cl, sq, ak, aw, tk, tw, it, ct, pr, bu, i⟩ = true from hh]; rfl
      rw [e]
      clear e
      go_wp2_with (first | go_big_skip | (refine zbx hS ?_; clear hS; intro b w hS) | (refine zal hS ?_; clear hS; intro b2 w hS) | (refine zsN hS ?_; clear hS; intro w hS) | (refine zl1 hS ?_) | ((with_reducible apply wl_eqF); (with_reducible rfl); rfl; rfl; rfl; rfl; exact Tryz.underlying206; (refine frS ?_)))
      refine wp_region_reads (by kernel_rfl) (by kernel_rfl) hS ?_
      repeat (first | go_big_quiet_skip | (refine zq1 ?_) | (refine zqN ?_) | (refine zqN ?_ (hc := by first | exact Cells.here (vs := [.string ak, .string aw]) rfl | exact Cells.there (Cells.here (vs := [.string ak, .string aw]) rfl))) | (apply wq_call; rfl; (intro w; apply exec_callF; (with_reducible rfl); decide +kernel; (focus (simp only [fD, List.map_cons, List.map_nil, Act.eval, fE, fF, fG, fH, Option.getD_some]; try rfl))); (intro w hS; exact isPl_at hp W w _ hS); (refine frS ?_)) | (apply wq_call; rfl; (intro w; apply exec_callT; (with_reducible rfl); rfl; decide +kernel; (focus (simp only [fD, List.map_cons, List.map_nil, Act.eval, fE, fF, fG, fH, Option.getD_some]; try rfl))); (intro w hS; exact counts_spec _ _ _ _ _ _ _ _ _ _ _ _ W w _ hS); (refine frS ?_)) | (apply wq_call; rfl; (intro w; apply exec_callT; (with_reducible rfl); rfl; decide +kernel; (focus (simp only [fD, List.map_cons, List.map_nil, Act.eval, fE, fF, fG, fH, Option.getD_some]; try rfl))); (intro w hS; exact sends_spec _ _ _ _ _ _ _ _ _ _ _ _ W w _ hS); (refine frS ?_)) | (apply wq_call; rfl; (intro w; apply exec_callT; (with_reducible rfl); rfl; decide +kernel; (focus (simp only [fD, List.map_cons, List.map_nil, Act.eval, fE, fF, fG, fH, Option.getD_some]; try rfl))); (intro w hS; exact orders_spec _ _ _ _ _ _ _ _ _ _ _ _ W w _ hS); (refine frS ?_)) | (apply wq_call; rfl; (intro w; apply exec_callT; (with_reducible rfl); rfl; decide +kernel; (focus (simp only [fD, List.map_cons, List.map_nil, Act.eval, fE, fF, fG, fH, Option.getD_some]; try rfl))); (intro w hS; exact cancels_spec _ _ _ _ _ _ _ _ _ _ _ _ W w _ hS); (refine frS ?_)) | (apply wq_call; rfl; (intro w; apply exec_callT; (with_reducible rfl); rfl; decide +kernel; (focus (simp only [fD, List.map_cons, List.map_nil, Act.eval, fE, fF, fG, fH, Option.getD_some]; try rfl))); (intro w hS; exact bare_spec _ _ _ _ _ _ _ _ _ _ _ _ W w _ hS); (refine frS ?_)) | (refine wq_pure rfl rfl ?_; intro K hK; go_big_quiet_op; go_big_quiet_on))
      clear hS
      intro w hS
      go_wp2_with fail
      go_ret
      exact ⟨rfl, hS.drop.drop⟩
    · skip
      have e : mayO ⟨7, cl, sq, ak, aw, tk, tw, it, ct, pr, bu, i⟩ = bareB ⟨7, cl, sq, ak, aw, tk, tw, it, ct, pr, bu, i⟩ := by unfold mayO; rw [show headB ⟨7, cl, sq, ak, aw, tk, tw, it, ct, pr, bu, i⟩ = true from hh]; rfl
      rw [e]
      clear e
      go_wp2_with (first | go_big_skip | (refine zbx hS ?_; clear hS; intro b w hS) | (refine zal hS ?_; clear hS; intro b2 w hS) | (refine zsN hS ?_; clear hS; intro w hS) | (refine zl1 hS ?_) | ((with_reducible apply wl_eqF); (with_reducible rfl); rfl; rfl; rfl; rfl; exact Tryz.underlying206; (refine frS ?_)))
      refine wp_region_reads (by kernel_rfl) (by kernel_rfl) hS ?_
      repeat (first | go_big_quiet_skip | (refine zq1 ?_) | (refine zqN ?_) | (refine zqN ?_ (hc := by first | exact Cells.here (vs := [.string ak, .string aw]) rfl | exact Cells.there (Cells.here (vs := [.string ak, .string aw]) rfl))) | (apply wq_call; rfl; (intro w; apply exec_callF; (with_reducible rfl); decide +kernel; (focus (simp only [fD, List.map_cons, List.map_nil, Act.eval, fE, fF, fG, fH, Option.getD_some]; try rfl))); (intro w hS; exact isPl_at hp W w _ hS); (refine frS ?_)) | (apply wq_call; rfl; (intro w; apply exec_callT; (with_reducible rfl); rfl; decide +kernel; (focus (simp only [fD, List.map_cons, List.map_nil, Act.eval, fE, fF, fG, fH, Option.getD_some]; try rfl))); (intro w hS; exact counts_spec _ _ _ _ _ _ _ _ _ _ _ _ W w _ hS); (refine frS ?_)) | (apply wq_call; rfl; (intro w; apply exec_callT; (with_reducible rfl); rfl; decide +kernel; (focus (simp only [fD, List.map_cons, List.map_nil, Act.eval, fE, fF, fG, fH, Option.getD_some]; try rfl))); (intro w hS; exact sends_spec _ _ _ _ _ _ _ _ _ _ _ _ W w _ hS); (refine frS ?_)) | (apply wq_call; rfl; (intro w; apply exec_callT; (with_reducible rfl); rfl; decide +kernel; (focus (simp only [fD, List.map_cons, List.map_nil, Act.eval, fE, fF, fG, fH, Option.getD_some]; try rfl))); (intro w hS; exact orders_spec _ _ _ _ _ _ _ _ _ _ _ _ W w _ hS); (refine frS ?_)) | (apply wq_call; rfl; (intro w; apply exec_callT; (with_reducible rfl); rfl; decide +kernel; (focus (simp only [fD, List.map_cons, List.map_nil, Act.eval, fE, fF, fG, fH, Option.getD_some]; try rfl))); (intro w hS; exact cancels_spec _ _ _ _ _ _ _ _ _ _ _ _ W w _ hS); (refine frS ?_)) | (apply wq_call; rfl; (intro w; apply exec_callT; (with_reducible rfl); rfl; decide +kernel; (focus (simp only [fD, List.map_cons, List.map_nil, Act.eval, fE, fF, fG, fH, Option.getD_some]; try rfl))); (intro w hS; exact bare_spec _ _ _ _ _ _ _ _ _ _ _ _ W w _ hS); (refine frS ?_)) | (refine wq_pure rfl rfl ?_; intro K hK; go_big_quiet_op; go_big_quiet_on))
      clear hS
      intro w hS
      go_wp2_with fail
      go_ret
      exact ⟨rfl, hS.drop.drop⟩
end
theorem mayO_at {kd cl sq : Int} {ak aw tk tw : ByteArray} {it ct pr : Int} {bu : Bool} {i : Int} {r : Bool} (h : mayO ⟨kd,cl,sq,ak,aw,tk,tw,it,ct,pr,bu,i⟩ = r) (W w : World) (R : List HP) (hS : St W R w) :
  Calls Tryz.prog 85 #[oV kd cl sq ak aw tk tw it ct pr bu i] w fun e w' => e = .returned (.bool r) ∧ St W R w' := h ▸ mayO_spec kd cl sq ak aw tk tw it ct pr bu i W w R hS
end Go.Proofs.YtlmhakmoioogaaaGreat
end
