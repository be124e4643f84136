/- FrameSums, run with any two strings. No condition. -/
import Derived.Test.YtjldlfaoocmpjaaDoorCSPre
set_option linter.unusedVariables false
set_option linter.unusedSimpArgs false
open Go Go.Ev Go.Proofs.Tryd
set_option maxRecDepth 100000
namespace CSTold
noncomputable section
theorem sums_code (okf : Nat → Bool) (call : Ev.Call) (g : H) (hal : ∀ (kR kP : KV), call (.fn 5) [] g kR kP = kR (.bool true) g)
    (hsum : ∀ (s : ByteArray), s.size < 70000 → s.size % 4 = 0 → ∀ (h : H) (kR kP : KV), call (.fn 7) [.string s] h kR kP = kR (.tuple #[.int .u32 (totF s), .int .i64 0]) h) (a b : ByteArray) (env : Env) (hl : env.length = 103) (h0 : gt env 0 = .string a) (h1 : gt env 1 = .string b) :
    ∃ env', (∀ kn kx, evC 20000 okf evD call cSums env g [] kn kx = kx .ret env' g []) ∧ gt env' 4 = .bool true := by
  have hma : (a.size : Int).tmod 4 = ((a.size % 4 : Nat) : Int) := by rw [Int.tmod_eq_emod_of_nonneg (by omega)]; omega
  have hmb : (b.size : Int).tmod 4 = ((b.size % 4 : Nat) : Int) := by rw [Int.tmod_eq_emod_of_nonneg (by omega)]; omega
  by_cases hA : a.size ≤ 3000
  case neg =>
    refine ⟨?E1, fun kn kx => ?A1, ?B1⟩
    case A1 => unfold cSums; simp -implicitDefEqProofs (disch := first | decide | omega | (simp only [len_set, hl] <;> omega)) only [evC_seq, evC_reg, evC_dreg, evC_cond, evC_block, evC_loop, evC_exit, evC_ret, evC_skip, kS_app, kB_exit, kB_ne, kB_ret, kL_app, kO_app, kN_app, kO2_app, kO3_app, kN3_app, kC_app, kG_app, kG3_app, kU_app, kD_app, kCall_app, evOps_oa, evOps_ob, evOps_oc, evOps_na, evOps_nc, evOps_ga, evOps_gc, evOps_nil, isB_tt, isB_tf, isB_ft, isB_ff, pick_t, pick_f, evD_l, evD_h, evD_nil, ev1_mov, ev1_pick, ev1_bin, ev1_lenS, ev1_lenL, ev1_idxStr, ev1_sliceStr, ev1_convI, ev1_eqt, ev1_eqf, ev1_un, ev1_extract, u_not, ex_0, ex_1, evo_none, evo_some, evt, evc, evg, evf, evs0, evs1, ev3_call, b_add, b_sub, b_mul, b_rem, b_adds, b_lss, b_leq, b_gtr, b_geq, lenS_eq, lenL_eq, s_idx, convI_eq, s_shl64, s_shr64, n_int, e_int, wrap_i64, wrap_u64, not_t, not_f, dec_t, dec_f, cond_t, cond_f, gt_set_same, gt_set_ne, len_set, hl, hal, h0, h1]; rfl
    case B1 => simp -implicitDefEqProofs (disch := first | decide | omega | (simp only [len_set, hl] <;> omega)) only [gt_set_same, gt_set_ne, len_set, hl, h0, h1]
  by_cases hB : b.size ≤ 3000
  case neg =>
    refine ⟨?E2, fun kn kx => ?A2, ?B2⟩
    case A2 => unfold cSums; simp -implicitDefEqProofs (disch := first | decide | omega | (simp only [len_set, hl] <;> omega)) only [evC_seq, evC_reg, evC_dreg, evC_cond, evC_block, evC_loop, evC_exit, evC_ret, evC_skip, kS_app, kB_exit, kB_ne, kB_ret, kL_app, kO_app, kN_app, kO2_app, kO3_app, kN3_app, kC_app, kG_app, kG3_app, kU_app, kD_app, kCall_app, evOps_oa, evOps_ob, evOps_oc, evOps_na, evOps_nc, evOps_ga, evOps_gc, evOps_nil, isB_tt, isB_tf, isB_ft, isB_ff, pick_t, pick_f, evD_l, evD_h, evD_nil, ev1_mov, ev1_pick, ev1_bin, ev1_lenS, ev1_lenL, ev1_idxStr, ev1_sliceStr, ev1_convI, ev1_eqt, ev1_eqf, ev1_un, ev1_extract, u_not, ex_0, ex_1, evo_none, evo_some, evt, evc, evg, evf, evs0, evs1, ev3_call, b_add, b_sub, b_mul, b_rem, b_adds, b_lss, b_leq, b_gtr, b_geq, lenS_eq, lenL_eq, s_idx, convI_eq, s_shl64, s_shr64, n_int, e_int, wrap_i64, wrap_u64, not_t, not_f, dec_t, dec_f, cond_t, cond_f, gt_set_same, gt_set_ne, len_set, hl, hal, h0, h1]; rfl
    case B2 => simp -implicitDefEqProofs (disch := first | decide | omega | (simp only [len_set, hl] <;> omega)) only [gt_set_same, gt_set_ne, len_set, hl, h0, h1]
  by_cases hA4 : a.size % 4 = 0
  case neg =>
    refine ⟨?E3, fun kn kx => ?A3, ?B3⟩
    case A3 => unfold cSums; simp -implicitDefEqProofs (disch := first | decide | omega | (simp only [len_set, hl] <;> omega)) only [evC_seq, evC_reg, evC_dreg, evC_cond, evC_block, evC_loop, evC_exit, evC_ret, evC_skip, kS_app, kB_exit, kB_ne, kB_ret, kL_app, kO_app, kN_app, kO2_app, kO3_app, kN3_app, kC_app, kG_app, kG3_app, kU_app, kD_app, kCall_app, evOps_oa, evOps_ob, evOps_oc, evOps_na, evOps_nc, evOps_ga, evOps_gc, evOps_nil, isB_tt, isB_tf, isB_ft, isB_ff, pick_t, pick_f, evD_l, evD_h, evD_nil, ev1_mov, ev1_pick, ev1_bin, ev1_lenS, ev1_lenL, ev1_idxStr, ev1_sliceStr, ev1_convI, ev1_eqt, ev1_eqf, ev1_un, ev1_extract, u_not, ex_0, ex_1, evo_none, evo_some, evt, evc, evg, evf, evs0, evs1, ev3_call, b_add, b_sub, b_mul, b_rem, b_adds, b_lss, b_leq, b_gtr, b_geq, lenS_eq, lenL_eq, s_idx, convI_eq, s_shl64, s_shr64, n_int, e_int, wrap_i64, wrap_u64, not_t, not_f, dec_t, dec_f, cond_t, cond_f, gt_set_same, gt_set_ne, len_set, hl, hal, hma, h0, h1]; rfl
    case B3 => simp -implicitDefEqProofs (disch := first | decide | omega | (simp only [len_set, hl] <;> omega)) only [gt_set_same, gt_set_ne, len_set, hl, h0, h1]
  by_cases hB4 : b.size % 4 = 0
  case neg =>
    refine ⟨?E4, fun kn kx => ?A4, ?B4⟩
    case A4 => unfold cSums; simp -implicitDefEqProofs (disch := first | decide | omega | (simp only [len_set, hl] <;> omega)) only [evC_seq, evC_reg, evC_dreg, evC_cond, evC_block, evC_loop, evC_exit, evC_ret, evC_skip, kS_app, kB_exit, kB_ne, kB_ret, kL_app, kO_app, kN_app, kO2_app, kO3_app, kN3_app, kC_app, kG_app, kG3_app, kU_app, kD_app, kCall_app, evOps_oa, evOps_ob, evOps_oc, evOps_na, evOps_nc, evOps_ga, evOps_gc, evOps_nil, isB_tt, isB_tf, isB_ft, isB_ff, pick_t, pick_f, evD_l, evD_h, evD_nil, ev1_mov, ev1_pick, ev1_bin, ev1_lenS, ev1_lenL, ev1_idxStr, ev1_sliceStr, ev1_convI, ev1_eqt, ev1_eqf, ev1_un, ev1_extract, u_not, ex_0, ex_1, evo_none, evo_some, evt, evc, evg, evf, evs0, evs1, ev3_call, b_add, b_sub, b_mul, b_rem, b_adds, b_lss, b_leq, b_gtr, b_geq, lenS_eq, lenL_eq, s_idx, convI_eq, s_shl64, s_shr64, n_int, e_int, wrap_i64, wrap_u64, not_t, not_f, dec_t, dec_f, cond_t, cond_f, gt_set_same, gt_set_ne, len_set, hl, hal, hma, hmb, h0, h1]; rfl
    case B4 => simp -implicitDefEqProofs (disch := first | decide | omega | (simp only [len_set, hl] <;> omega)) only [gt_set_same, gt_set_ne, len_set, hl, h0, h1]
  have c1 : ∀ (h : H) (kR kP : KV), call (.fn 7) [.string a] h kR kP = kR (.tuple #[.int .u32 (totF a), .int .i64 0]) h := fun h kR kP => hsum a (by omega) hA4 h kR kP
  have c2 : ∀ (h : H) (kR kP : KV), call (.fn 7) [.string b] h kR kP = kR (.tuple #[.int .u32 (totF b), .int .i64 0]) h := fun h kR kP => hsum b (by omega) hB4 h kR kP
  have c3 : ∀ (h : H) (kR kP : KV), call (.fn 7) [.string (a ++ b)] h kR kP = kR (.tuple #[.int .u32 (totF (a ++ b)), .int .i64 0]) h := fun h kR kP => hsum (a ++ b) (by rw [app_size]; omega) (by rw [app_size]; omega) h kR kP
  have c4 : ∀ (h : H) (kR kP : KV), call (.fn 7) [.string (b ++ a)] h kR kP = kR (.tuple #[.int .u32 (totF (a ++ b)), .int .i64 0]) h := fun h kR kP => by
    rw [hsum (b ++ a) (by rw [app_size]; omega) (by rw [app_size]; omega) h kR kP, totF_comm a b hA4 hB4]
  have na := totF_nn a
  have nb := totF_nn b
  have nc := totF_nn (a ++ b)
  have happ := totF_app a b hA4 hB4
  generalize totF a = x at *
  generalize totF b = y at *
  generalize totF (a ++ b) = z at *
  by_cases hxy : 4294967296 ≤ x + y
  case pos =>
    rw [if_pos hxy] at happ
    refine ⟨?E5, fun kn kx => ?A5, ?B5⟩
    case A5 => unfold cSums; simp -implicitDefEqProofs (disch := first | decide | omega | (simp only [len_set, hl] <;> omega)) only [evC_seq, evC_reg, evC_dreg, evC_cond, evC_block, evC_loop, evC_exit, evC_ret, evC_skip, kS_app, kB_exit, kB_ne, kB_ret, kL_app, kO_app, kN_app, kO2_app, kO3_app, kN3_app, kC_app, kG_app, kG3_app, kU_app, kD_app, kCall_app, evOps_oa, evOps_ob, evOps_oc, evOps_na, evOps_nc, evOps_ga, evOps_gc, evOps_nil, isB_tt, isB_tf, isB_ft, isB_ff, pick_t, pick_f, evD_l, evD_h, evD_nil, ev1_mov, ev1_pick, ev1_bin, ev1_lenS, ev1_lenL, ev1_idxStr, ev1_sliceStr, ev1_convI, ev1_eqt, ev1_eqf, ev1_un, ev1_extract, u_not, ex_0, ex_1, evo_none, evo_some, evt, evc, evg, evf, evs0, evs1, ev3_call, b_add, b_sub, b_mul, b_rem, b_adds, b_lss, b_leq, b_gtr, b_geq, lenS_eq, lenL_eq, s_idx, convI_eq, s_shl64, s_shr64, n_int, e_int, wrap_i64, wrap_u64, not_t, not_f, dec_t, dec_f, cond_t, cond_f, gt_set_same, gt_set_ne, len_set, hl, hal, hma, hmb, c1, c2, c3, c4, h0, h1]; rfl
    case B5 => simp -implicitDefEqProofs (disch := first | decide | omega | (simp only [len_set, hl] <;> omega)) only [gt_set_same, gt_set_ne, len_set, hl, h0, h1]
  case neg =>
    rw [if_neg hxy] at happ
    refine ⟨?E6, fun kn kx => ?A6, ?B6⟩
    case A6 => unfold cSums; simp -implicitDefEqProofs (disch := first | decide | omega | (simp only [len_set, hl] <;> omega)) only [evC_seq, evC_reg, evC_dreg, evC_cond, evC_block, evC_loop, evC_exit, evC_ret, evC_skip, kS_app, kB_exit, kB_ne, kB_ret, kL_app, kO_app, kN_app, kO2_app, kO3_app, kN3_app, kC_app, kG_app, kG3_app, kU_app, kD_app, kCall_app, evOps_oa, evOps_ob, evOps_oc, evOps_na, evOps_nc, evOps_ga, evOps_gc, evOps_nil, isB_tt, isB_tf, isB_ft, isB_ff, pick_t, pick_f, evD_l, evD_h, evD_nil, ev1_mov, ev1_pick, ev1_bin, ev1_lenS, ev1_lenL, ev1_idxStr, ev1_sliceStr, ev1_convI, ev1_eqt, ev1_eqf, ev1_un, ev1_extract, u_not, ex_0, ex_1, evo_none, evo_some, evt, evc, evg, evf, evs0, evs1, ev3_call, b_add, b_sub, b_mul, b_rem, b_adds, b_lss, b_leq, b_gtr, b_geq, lenS_eq, lenL_eq, s_idx, convI_eq, s_shl64, s_shr64, n_int, e_int, wrap_i64, wrap_u64, not_t, not_f, dec_t, dec_f, cond_t, cond_f, gt_set_same, gt_set_ne, len_set, hl, hal, hma, hmb, c1, c2, c3, c4, h0, h1]; rfl
    case B6 => simp -implicitDefEqProofs (disch := first | decide | omega | (simp only [len_set, hl] <;> omega)) only [gt_set_same, gt_set_ne, len_set, hl, h0, h1]
theorem sums_runs (a b : ByteArray) : told1.call 20000 200 (.fn 4) [.string a, .string b] H0 (fun v _ => some v) (fun _ _ => none) = some (.bool true) := by
  rw [told1.call_succ 20000 199 4 tab4]
  have hl : (Env.start [.string a, .string b] (Nat.sub 103 [Value.string a, .string b].length) Ev.undef).length = 103 := by rw [len_start]; rfl
  have h0 : gt (Env.start [.string a, .string b] (Nat.sub 103 [Value.string a, .string b].length) Ev.undef) 0 = .string a := by rw [gt_start]; rfl
  have h1 : gt (Env.start [.string a, .string b] (Nat.sub 103 [Value.string a, .string b].length) Ev.undef) 1 = .string b := by rw [gt_start]; rfl
  obtain ⟨env', e1, e2⟩ := sums_code told1.okf (told1.call 20000 199) H0 alive_call (fun s q1 q2 h kR kP => sum_call 197 s q1 q2 h kR kP) a b _ hl h0 h1
  unfold fdSums
  rw [evFn_at (env' := env') e1, e2]
theorem sums_calls (a b : ByteArray) (w : World) (hw0 : TabIn w 0 (barredLL.flatten.map fun z => .int .i64 z)) (hw1 : TabIn w 1 (pow10L.map fun z => .int .u64 z)) : Calls prog 4 #[.string a, .string b] w fun
    | .returned v', u => v' = .bool true ∧ Left w u
    | _, _ => False :=
  told1.closedG 20000 200 (args := [.string a, .string b]) (by rfl) (by kernel_rfl) (bool_only true) (by kernel_rfl) (by rfl) (sums_runs a b) w (fun j g L h1 h2 => by
    match j, h1, h2 with
    | 0, h1, h2 => cases h1; cases h2; exact hw0
    | 1, h1, h2 => cases h1; cases h2; exact hw1
    | j + 2, h1, _ => cases h1)
end
end CSTold
#print axioms CSTold.sums_calls
