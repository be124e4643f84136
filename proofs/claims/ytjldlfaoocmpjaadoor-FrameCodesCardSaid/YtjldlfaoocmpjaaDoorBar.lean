/- Is a character barred? as the program finds it. No condition. -/
import Derived.Test.YtjldlfaoocmpjaaDoorEvF
set_option linter.unusedVariables false
set_option linter.unusedSimpArgs false
namespace Go.Ev
open Go
noncomputable section
def barBody (ty : TypeId) : C := (.seq (.reg [
    .o 7 (.a (.bin .lss (.t 6) (.c (.int .i64 2))))])
    (.seq (.cond (.t 7)
      .skip
      (.exit 0))
    (.seq (.block 1
     (.seq (.reg [
     .o 8 (.a (.idxA 2 2 (some 2) (.t 5) (.t 6))),
     .o 4 (.b (.alloc (some ty) [(.int .i64 0), (.int .i64 0)])),
     .n (.c (.store 2 (.t 4) (.t 8)))])
     (.seq (.reg [
     .o 9 (.a (.mov (.t 0))),
     .o 10 (.a (.idxAddrA 2 1 (.t 4) (.c (.int .i64 0)))),
     .o 11 (.a (.load none (.t 10))),
     .o 12 (.a (.bin .geq (.t 9) (.t 11))),
     .o 13 (.a (.mov (.t 12))),
     .g 13 true 14 (.a (.mov (.t 0))),
     .g 13 true 15 (.a (.idxAddrA 2 1 (.t 4) (.c (.int .i64 1)))),
     .g 13 true 16 (.a (.load none (.t 15))),
     .g 13 true 17 (.a (.bin .leq (.t 14) (.t 16))),
     .o 18 (.a (.pick (.t 13) (.t 17) (.c (.bool false))))])
     (.cond (.t 18)
       (.seq (.reg [
       .o 2 (.a (.mov (.c (.bool true))))])
       .ret)
       .skip))))
    (.reg [
    .o 19 (.a (.bin .add (.t 6) (.c (.int .i64 1)))),
    .o 6 (.a (.mov (.t 19)))]))))
def cBar (ty : TypeId) : C :=
  (.seq (.reg [
  .o 2 (.a (.mov (.c (.bool false))))])
  (.seq (.seq (.reg [
  .o 5 (.a (.load (some 4) (.g 0))),
  .o 6 (.a (.mov (.c (.int .i64 0))))])
  (.block 0 (.loop (barBody ty))))
  (.seq (.reg [
  .o 2 (.a (.mov (.c (.bool false))))])
  .ret)))
def fdBar (ty : TypeId) : FD := ⟨20, cBar ty, [.t 2]⟩
/-- the characters that are barred -/
def barB (c : Int) : Bool := decide (58 ≤ c ∧ c ≤ 64) || decide (91 ≤ c ∧ c ≤ 96)
def barL : List Value := [.int .i64 58, .int .i64 64, .int .i64 91, .int .i64 96]
theorem ld_bar (h : H) (f : Value → R) (hb : look h.es 0 = some (entR barL)) : load (some 4) (.pointer (some ⟨0, 0, none⟩)) h f = f (.agg #[.int .i64 58, .int .i64 64, .int .i64 91, .int .i64 96]) := by
  simp only [load, loadN, addr, cellsAt, hb]
  rfl
theorem ix_0 (a b c d : Value) (k : IntKind) (f : Value → R) : idxA 2 2 (some 2) (.agg #[a, b, c, d]) (.int k 0) f = f (.agg #[a, b]) := rfl
theorem ix_1 (a b c d : Value) (k : IntKind) (f : Value → R) : idxA 2 2 (some 2) (.agg #[a, b, c, d]) (.int k 1) f = f (.agg #[c, d]) := rfl
theorem ia_0 (b : Nat) (k : IntKind) (f : Value → R) : idxAddrA 2 1 (.pointer (some ⟨b, 0, none⟩)) (.int k 0) f = f (.pointer (some ⟨b, 0, none⟩)) := rfl
theorem ia_1 (b : Nat) (k : IntKind) (f : Value → R) : idxAddrA 2 1 (.pointer (some ⟨b, 0, none⟩)) (.int k 1) f = f (.pointer (some ⟨b, 1, none⟩)) := rfl
/-- two cells -/
def tr2 (x y : Int) : Tr := Tr.ofList [.int .i64 x, .int .i64 y]
theorem al_2 (ty : TypeId) (h : H) (k : KV) : alloc (some ty) [(.int .i64 0), (.int .i64 0)] h k = k (.pointer (some ⟨h.nx, 0, none⟩)) { es := (h.nx, .cells (tr2 0 0) 2 false ⟨true, some ty, 0, true⟩) :: h.es, nx := h.nx + 1, low := h.low } := rfl
theorem st_2 (b nx low : Nat) (fl : FT) (r : List (Nat × Ent)) (x y : Int) (kk : H → R) (hz : fl.fz = 0) :
    store 2 (.pointer (some ⟨b, 0, none⟩)) (.agg #[.int .i64 x, .int .i64 y]) { es := (b, .cells (tr2 0 0) 2 false fl) :: r, nx := nx, low := low } kk = kk { es := (b, .cells (tr2 x y) 2 false fl) :: r, nx := nx, low := low } :=
  (st_head b 2 2 0 nx low (tr2 0 0) fl r (.agg #[.int .i64 x, .int .i64 y]) kk hz rfl (by omega) rfl rfl).trans rfl
theorem ld_20 (b nx low : Nat) (fl : FT) (r : List (Nat × Ent)) (x y : Int) (f : Value → R) : load none (.pointer (some ⟨b, 0, none⟩)) { es := (b, .cells (tr2 x y) 2 false fl) :: r, nx := nx, low := low } f = f (.int .i64 x) := ld_head b 2 0 nx low _ false fl r _ rfl
theorem ld_21 (b nx low : Nat) (fl : FT) (r : List (Nat × Ent)) (x y : Int) (f : Value → R) : load none (.pointer (some ⟨b, 1, none⟩)) { es := (b, .cells (tr2 x y) 2 false fl) :: r, nx := nx, low := low } f = f (.int .i64 y) := ld_head b 2 1 nx low _ false fl r _ rfl
section
variable {N : Nat} {okf : Nat → Bool} {call : Call}
theorem bar_code (ty : TypeId) (h : H) (c : Int) (env : Env) (hb : look h.es 0 = some (entR barL)) (hl : env.length = 20) (h0 : gt env 0 = .int .i64 c) :
    ∃ env' l m, (∀ kn kx, evC (N + 3) okf evD call (cBar ty) env { es := h.es, nx := h.nx, low := h.nx } [] kn kx = kx .ret env' { es := l ++ h.es, nx := h.nx + 1 + m, low := h.nx } []) ∧ gt env' 2 = .bool (barB c) ∧ older h.nx (l ++ h.es) = older h.nx h.es := by
  have e01 : (0 : Int) + 1 = 1 := rfl
  have e11 : (1 : Int) + 1 = 2 := rfl
  have hld : ∀ (f : Value → R), load (some 4) (.pointer (some ⟨0, 0, none⟩)) { es := h.es, nx := h.nx, low := h.nx } f = f (.agg #[.int .i64 58, .int .i64 64, .int .i64 91, .int .i64 96]) := fun f => ld_bar _ f hb
  by_cases q1 : c < 58
  case pos =>
    refine ⟨?E1, [(h.nx + 1, .cells (tr2 91 96) 2 false ⟨true, some ty, 0, true⟩), (h.nx, .cells (tr2 58 64) 2 false ⟨true, some ty, 0, true⟩)], 1, fun kn kx => ?A1, ?B1, ?C1⟩
    case A1 => unfold cBar; simp -implicitDefEqProofs (disch := first | decide | omega | (simp only [len_set, hl] <;> omega)) only [evC_seq, evC_reg, evC_dreg, evC_cond, evC_block, evC_loop, evC_exit, evC_ret, evC_skip, kS_app, kB_exit, kB_ne, kB_ret, kL_app, kO_app, kN_app, kO2_app, kO3_app, kN3_app, kC_app, kG_app, kG3_app, kU_app, kD_app, kCall_app, evOps_oa, evOps_ob, evOps_oc, evOps_na, evOps_nc, evOps_ga, evOps_gc, evOps_nil, isB_tt, isB_tf, isB_ft, isB_ff, pick_t, pick_f, evD_l, evD_h, evD_nil, ev1_mov, ev1_pick, ev1_bin, ev1_lenS, ev1_lenL, ev1_load, ev1_idxA, ev1_idxAddrA, ev1_sliceArr, ev1_bytesStr, ev2_alloc, ev3_store, kSt_app, ev1_idxStr, ev1_sliceStr, ev1_convI, ev1_eqt, ev1_eqf, ev1_un, ev1_extract, u_not, ex_0, ex_1, evo_none, evo_some, evt, evc, evg, evf, evs0, evs1, ev3_call, b_add, b_sub, b_mul, b_rem, b_adds, b_lss, b_leq, b_gtr, b_geq, lenS_eq, lenL_eq, sl_to, s_idx, convI_eq, s_shl64, s_shr64, n_int, e_int, wrap_i64, wrap_u64, not_t, not_f, dec_t, dec_f, cond_t, cond_f, gt_set_same, gt_set_ne, len_set, hl, ix_0, ix_1, ia_0, ia_1, al_2, st_2, ld_20, ld_21, hld, e01, e11, loopD_succ, barBody, h0]; rfl
    case B1 =>
      simp (disch := first | decide | omega | (simp only [len_set, hl] <;> omega)) only [gt_set_same, gt_set_ne, len_set, hl, h0]
      unfold barB
      simp <;> omega
    case C1 =>
      simp only [List.cons_append, List.nil_append]
      rw [older_new _ _ _ _ (by omega), older_new _ _ _ _ (by omega)]
  by_cases q2 : c ≤ 64
  case pos =>
    refine ⟨?E2, [(h.nx, .cells (tr2 58 64) 2 false ⟨true, some ty, 0, true⟩)], 0, fun kn kx => ?A2, ?B2, ?C2⟩
    case A2 => unfold cBar; simp -implicitDefEqProofs (disch := first | decide | omega | (simp only [len_set, hl] <;> omega)) only [evC_seq, evC_reg, evC_dreg, evC_cond, evC_block, evC_loop, evC_exit, evC_ret, evC_skip, kS_app, kB_exit, kB_ne, kB_ret, kL_app, kO_app, kN_app, kO2_app, kO3_app, kN3_app, kC_app, kG_app, kG3_app, kU_app, kD_app, kCall_app, evOps_oa, evOps_ob, evOps_oc, evOps_na, evOps_nc, evOps_ga, evOps_gc, evOps_nil, isB_tt, isB_tf, isB_ft, isB_ff, pick_t, pick_f, evD_l, evD_h, evD_nil, ev1_mov, ev1_pick, ev1_bin, ev1_lenS, ev1_lenL, ev1_load, ev1_idxA, ev1_idxAddrA, ev1_sliceArr, ev1_bytesStr, ev2_alloc, ev3_store, kSt_app, ev1_idxStr, ev1_sliceStr, ev1_convI, ev1_eqt, ev1_eqf, ev1_un, ev1_extract, u_not, ex_0, ex_1, evo_none, evo_some, evt, evc, evg, evf, evs0, evs1, ev3_call, b_add, b_sub, b_mul, b_rem, b_adds, b_lss, b_leq, b_gtr, b_geq, lenS_eq, lenL_eq, sl_to, s_idx, convI_eq, s_shl64, s_shr64, n_int, e_int, wrap_i64, wrap_u64, not_t, not_f, dec_t, dec_f, cond_t, cond_f, gt_set_same, gt_set_ne, len_set, hl, ix_0, ix_1, ia_0, ia_1, al_2, st_2, ld_20, ld_21, hld, e01, e11, loopD_succ, barBody, h0]; rfl
    case B2 =>
      simp (disch := first | decide | omega | (simp only [len_set, hl] <;> omega)) only [gt_set_same, gt_set_ne, len_set, hl, h0]
      unfold barB
      simp <;> omega
    case C2 =>
      simp only [List.cons_append, List.nil_append]
      rw [older_new _ _ _ _ (by omega)]
  by_cases q3 : c < 91
  case pos =>
    refine ⟨?E3, [(h.nx + 1, .cells (tr2 91 96) 2 false ⟨true, some ty, 0, true⟩), (h.nx, .cells (tr2 58 64) 2 false ⟨true, some ty, 0, true⟩)], 1, fun kn kx => ?A3, ?B3, ?C3⟩
    case A3 => unfold cBar; simp -implicitDefEqProofs (disch := first | decide | omega | (simp only [len_set, hl] <;> omega)) only [evC_seq, evC_reg, evC_dreg, evC_cond, evC_block, evC_loop, evC_exit, evC_ret, evC_skip, kS_app, kB_exit, kB_ne, kB_ret, kL_app, kO_app, kN_app, kO2_app, kO3_app, kN3_app, kC_app, kG_app, kG3_app, kU_app, kD_app, kCall_app, evOps_oa, evOps_ob, evOps_oc, evOps_na, evOps_nc, evOps_ga, evOps_gc, evOps_nil, isB_tt, isB_tf, isB_ft, isB_ff, pick_t, pick_f, evD_l, evD_h, evD_nil, ev1_mov, ev1_pick, ev1_bin, ev1_lenS, ev1_lenL, ev1_load, ev1_idxA, ev1_idxAddrA, ev1_sliceArr, ev1_bytesStr, ev2_alloc, ev3_store, kSt_app, ev1_idxStr, ev1_sliceStr, ev1_convI, ev1_eqt, ev1_eqf, ev1_un, ev1_extract, u_not, ex_0, ex_1, evo_none, evo_some, evt, evc, evg, evf, evs0, evs1, ev3_call, b_add, b_sub, b_mul, b_rem, b_adds, b_lss, b_leq, b_gtr, b_geq, lenS_eq, lenL_eq, sl_to, s_idx, convI_eq, s_shl64, s_shr64, n_int, e_int, wrap_i64, wrap_u64, not_t, not_f, dec_t, dec_f, cond_t, cond_f, gt_set_same, gt_set_ne, len_set, hl, ix_0, ix_1, ia_0, ia_1, al_2, st_2, ld_20, ld_21, hld, e01, e11, loopD_succ, barBody, h0]; rfl
    case B3 =>
      simp (disch := first | decide | omega | (simp only [len_set, hl] <;> omega)) only [gt_set_same, gt_set_ne, len_set, hl, h0]
      unfold barB
      simp <;> omega
    case C3 =>
      simp only [List.cons_append, List.nil_append]
      rw [older_new _ _ _ _ (by omega), older_new _ _ _ _ (by omega)]
  by_cases q4 : c ≤ 96
  case pos =>
    refine ⟨?E4, [(h.nx + 1, .cells (tr2 91 96) 2 false ⟨true, some ty, 0, true⟩), (h.nx, .cells (tr2 58 64) 2 false ⟨true, some ty, 0, true⟩)], 1, fun kn kx => ?A4, ?B4, ?C4⟩
    case A4 => unfold cBar; simp -implicitDefEqProofs (disch := first | decide | omega | (simp only [len_set, hl] <;> omega)) only [evC_seq, evC_reg, evC_dreg, evC_cond, evC_block, evC_loop, evC_exit, evC_ret, evC_skip, kS_app, kB_exit, kB_ne, kB_ret, kL_app, kO_app, kN_app, kO2_app, kO3_app, kN3_app, kC_app, kG_app, kG3_app, kU_app, kD_app, kCall_app, evOps_oa, evOps_ob, evOps_oc, evOps_na, evOps_nc, evOps_ga, evOps_gc, evOps_nil, isB_tt, isB_tf, isB_ft, isB_ff, pick_t, pick_f, evD_l, evD_h, evD_nil, ev1_mov, ev1_pick, ev1_bin, ev1_lenS, ev1_lenL, ev1_load, ev1_idxA, ev1_idxAddrA, ev1_sliceArr, ev1_bytesStr, ev2_alloc, ev3_store, kSt_app, ev1_idxStr, ev1_sliceStr, ev1_convI, ev1_eqt, ev1_eqf, ev1_un, ev1_extract, u_not, ex_0, ex_1, evo_none, evo_some, evt, evc, evg, evf, evs0, evs1, ev3_call, b_add, b_sub, b_mul, b_rem, b_adds, b_lss, b_leq, b_gtr, b_geq, lenS_eq, lenL_eq, sl_to, s_idx, convI_eq, s_shl64, s_shr64, n_int, e_int, wrap_i64, wrap_u64, not_t, not_f, dec_t, dec_f, cond_t, cond_f, gt_set_same, gt_set_ne, len_set, hl, ix_0, ix_1, ia_0, ia_1, al_2, st_2, ld_20, ld_21, hld, e01, e11, loopD_succ, barBody, h0]; rfl
    case B4 =>
      simp (disch := first | decide | omega | (simp only [len_set, hl] <;> omega)) only [gt_set_same, gt_set_ne, len_set, hl, h0]
      unfold barB
      simp <;> omega
    case C4 =>
      simp only [List.cons_append, List.nil_append]
      rw [older_new _ _ _ _ (by omega), older_new _ _ _ _ (by omega)]
  refine ⟨?E5, [(h.nx + 1, .cells (tr2 91 96) 2 false ⟨true, some ty, 0, true⟩), (h.nx, .cells (tr2 58 64) 2 false ⟨true, some ty, 0, true⟩)], 1, fun kn kx => ?A5, ?B5, ?C5⟩
  case A5 => unfold cBar; simp -implicitDefEqProofs (disch := first | decide | omega | (simp only [len_set, hl] <;> omega)) only [evC_seq, evC_reg, evC_dreg, evC_cond, evC_block, evC_loop, evC_exit, evC_ret, evC_skip, kS_app, kB_exit, kB_ne, kB_ret, kL_app, kO_app, kN_app, kO2_app, kO3_app, kN3_app, kC_app, kG_app, kG3_app, kU_app, kD_app, kCall_app, evOps_oa, evOps_ob, evOps_oc, evOps_na, evOps_nc, evOps_ga, evOps_gc, evOps_nil, isB_tt, isB_tf, isB_ft, isB_ff, pick_t, pick_f, evD_l, evD_h, evD_nil, ev1_mov, ev1_pick, ev1_bin, ev1_lenS, ev1_lenL, ev1_load, ev1_idxA, ev1_idxAddrA, ev1_sliceArr, ev1_bytesStr, ev2_alloc, ev3_store, kSt_app, ev1_idxStr, ev1_sliceStr, ev1_convI, ev1_eqt, ev1_eqf, ev1_un, ev1_extract, u_not, ex_0, ex_1, evo_none, evo_some, evt, evc, evg, evf, evs0, evs1, ev3_call, b_add, b_sub, b_mul, b_rem, b_adds, b_lss, b_leq, b_gtr, b_geq, lenS_eq, lenL_eq, sl_to, s_idx, convI_eq, s_shl64, s_shr64, n_int, e_int, wrap_i64, wrap_u64, not_t, not_f, dec_t, dec_f, cond_t, cond_f, gt_set_same, gt_set_ne, len_set, hl, ix_0, ix_1, ia_0, ia_1, al_2, st_2, ld_20, ld_21, hld, e01, e11, loopD_succ, barBody, h0]; rfl
  case B5 =>
    simp (disch := first | decide | omega | (simp only [len_set, hl] <;> omega)) only [gt_set_same, gt_set_ne, len_set, hl, h0]
    unfold barB
    simp <;> omega
  case C5 =>
    simp only [List.cons_append, List.nil_append]
    rw [older_new _ _ _ _ (by omega), older_new _ _ _ _ (by omega)]
theorem bar_fn {dcall : DCall} (ty : TypeId) (h : H) (c : Int) (hb : look h.es 0 = some (entR barL)) (hk : KeysLt h.nx h.es) :
    ∃ m, ∀ kR kP, evFn (N + 3) okf evD call dcall (fdBar ty) [.int .i64 c] h kR kP = kR (.bool (barB c)) { es := h.es, nx := h.nx + 1 + m, low := h.low } := by
  obtain ⟨env', l, m, e1, e2, e3⟩ := bar_code (N := N) (okf := okf) (call := call) ty h c (Env.start [.int .i64 c] (Nat.sub 20 1) undef) hb (by rw [len_start]; rfl) (by rw [gt_start]; rfl)
  refine ⟨m, fun kR kP => ?_⟩
  unfold fdBar
  rw [evFn_st e1, e2, gc_scal _ _ _ _ _ (by omega) rfl, e3, older_id hk]
end
end
end Go.Ev
