/- The code of a number, as the program finds it. No condition. -/
import Derived.Test.YtjldlfaoocmpjaaDoorCode1
set_option linter.unusedVariables false
set_option linter.unusedSimpArgs false
namespace Go.Ev
open Go
noncomputable section
def rdA : C := .reg [
        .o 21 (.a (.mov (.t 19))),
        .o 6 (.a (.mov (.t 21)))]
def rdB : C := .reg [
        .o 22 (.a (.mov (.t 5))),
        .o 23 (.a (.bin .quo (.t 22) (.c (.int .i64 4)))),
        .o 24 (.a (.bin .add (.t 23) (.c (.int .i64 48)))),
        .o 25 (.a (.mov (.t 5))),
        .o 26 (.a (.bin .quo (.t 25) (.c (.int .i64 4)))),
        .o 27 (.a (.bin .add (.t 26) (.c (.int .i64 48)))),
        .o 7 (.a (.mov (.t 24))),
        .o 8 (.a (.mov (.t 27)))]
def rdC : C := .seq (.reg [
        .o 28 (.a (.mov (.t 6))),
        .o 29 (.a (.eq .num false (.t 28) (.c (.int .i64 0))))])
        (.cond (.t 29)
          (.reg [
          .o 30 (.a (.mov (.t 7))),
          .o 31 (.a (.mov (.t 5))),
          .o 32 (.a (.bin .rem (.t 31) (.c (.int .i64 4)))),
          .o 33 (.a (.bin .add (.t 30) (.t 32))),
          .o 7 (.a (.mov (.t 33)))])
          .skip)
def rdE : C := .reg [
        .o 44 (.a (.mov (.t 6))),
        .o 45 (.a (.bin .mul (.c (.int .i64 8)) (.t 44))),
        .o 46 (.a (.mov (.t 4))),
        .o 47 (.a (.bin .add (.t 45) (.t 46))),
        .o 48 (.a (.bin .add (.t 47) (.c (.int .i64 1)))),
        .o 49 (.a (.bin .rem (.t 48) (.c (.int .i64 16)))),
        .o 50 (.a (.mov (.t 6))),
        .o 51 (.a (.bin .mul (.c (.int .i64 8)) (.t 50))),
        .o 52 (.a (.bin .add (.t 51) (.c (.int .i64 4)))),
        .o 53 (.a (.mov (.t 4))),
        .o 54 (.a (.bin .add (.t 52) (.t 53))),
        .o 55 (.a (.bin .add (.t 54) (.c (.int .i64 1)))),
        .o 56 (.a (.bin .rem (.t 55) (.c (.int .i64 16)))),
        .o 57 (.a (.mov (.t 7))),
        .o 58 (.a (.convI .u8 (.t 57))),
        .o 59 (.a (.mov (.t 8))),
        .o 60 (.a (.convI .u8 (.t 59))),
        .o 61 (.a (.idxAddrA 16 1 (.t 3) (.t 49))),
        .n (.c (.store 1 (.t 61) (.t 58))),
        .o 62 (.a (.idxAddrA 16 1 (.t 3) (.t 56))),
        .n (.c (.store 1 (.t 62) (.t 60)))]
def roundBody (F : Nat) : C := .seq (.reg [
       .o 20 (.a (.bin .lss (.t 19) (.c (.int .i64 2))))])
       (.seq (.cond (.t 20)
         .skip
         (.exit 2))
       (.seq (.block 3 (.seq rdA (.seq rdB (.seq rdC (.seq (.block 4 (.loop (whBody F))) rdE)))))
       (.reg [
       .o 63 (.a (.bin .add (.t 19) (.c (.int .i64 1)))),
       .o 19 (.a (.mov (.t 63)))])))
def x0 (b k : Nat) : Nat := if k = 0 then b / 4 + 48 + b % 4 else b / 4 + 48
def y0 (b : Nat) : Nat := b / 4 + 48
def chJ (b k : Nat) : Nat := jf 8 (x0 b k) (y0 b)
def chX (b k : Nat) : Nat := x0 b k + chJ b k
def chY (b k : Nat) : Nat := y0 b - chJ b k
theorem chars_fin : ∀ b, b < 256 → ∀ k, k < 2 → jfin 8 (x0 b k) (y0 b) = true := by decide +kernel
def pX (k i : Nat) : Nat := (8 * k + i + 1) % 16
def pY (k i : Nat) : Nat := (8 * k + 4 + i + 1) % 16
theorem ia_16 (B p : Nat) (k : IntKind) (f : Value → R) (hp : p < 16) : idxAddrA 16 1 (.pointer (some ⟨B, 0, none⟩)) (.int k (p : Int)) f = f (.pointer (some ⟨B, p, none⟩)) := by
  have e : Nat.blt p 16 = true := blt_iff.2 hp
  have : idxAddrA 16 1 (.pointer (some ⟨B, 0, none⟩)) (.int k (.ofNat p)) f = f (mkPtr B (Nat.add 0 (Nat.mul p 1))) := by
    simp only [idxAddrA, addr, idxN, e]
  have e2 : Nat.add 0 (Nat.mul p 1) = p := by simp
  rw [e2] at this
  exact this
theorem st_16 (B p nx low : Nat) (tr : Tr) (fl : FT) (r : List (Nat × Ent)) (v : Int) (kk : H → R) (hz : fl.fz = 0) (hp : p < 16) :
    store 1 (.pointer (some ⟨B, p, none⟩)) (.int .u8 v) { es := (B, .cells tr 16 false fl) :: r, nx := nx, low := low } kk = kk { es := (B, .cells (tr.set p (.int .u8 v)) 16 false fl) :: r, nx := nx, low := low } :=
  (st_head B 16 1 p nx low tr fl r (.int .u8 v) kk hz rfl (by omega) rfl rfl).trans rfl
section
variable {N : Nat} {okf : Nat → Bool} {call : Call}
theorem rd_front (rest : C) (b k : Nat) (env : Env) (hb : b < 256) (hk : k < 2) (hl : env.length = 67) (h5 : gt env 5 = .int .i64 (b : Int)) (h19 : gt env 19 = .int .i64 (k : Int)) :
    ∃ env', (∀ h d kn kx, evC N okf evD call (.seq rdA (.seq rdB (.seq rdC rest))) env h d kn kx = evC N okf evD call rest env' h d kn kx) ∧ env'.length = 67 ∧ gt env' 7 = .int .i64 (x0 b k : Nat) ∧ gt env' 8 = .int .i64 (y0 b : Nat) ∧
      gt env' 6 = .int .i64 (k : Int) ∧ gt env' 0 = gt env 0 ∧ gt env' 3 = gt env 3 ∧ gt env' 4 = gt env 4 ∧ gt env' 9 = gt env 9 ∧ gt env' 19 = gt env 19 ∧ gt env' 5 = gt env 5 := by
  have hq : (b : Int).tdiv 4 = ((b / 4 : Nat) : Int) := rfl
  have hr : (b : Int).tmod 4 = ((b % 4 : Nat) : Int) := rfl
  by_cases h0 : k = 0
  case pos =>
    refine ⟨?E1, fun h d kn kx => ?A1, ?B1⟩
    case A1 => unfold rdA rdB rdC; simp -implicitDefEqProofs (disch := first | decide | omega | (simp only [len_set, hl] <;> omega)) only [evC_seq, evC_reg, evC_dreg, evC_cond, evC_block, evC_loop, evC_exit, evC_ret, evC_skip, kS_app, kB_exit, kB_ne, kB_ret, kL_app, kO_app, kN_app, kO2_app, kO3_app, kN3_app, kC_app, kG_app, kG3_app, kU_app, kD_app, kCall_app, evOps_oa, evOps_ob, evOps_oc, evOps_na, evOps_nc, evOps_ga, evOps_gc, evOps_nil, isB_tt, isB_tf, isB_ft, isB_ff, pick_t, pick_f, evD_l, evD_h, evD_nil, ev1_mov, ev1_pick, ev1_bin, ev1_lenS, ev1_lenL, ev1_load, ev1_idxA, ev1_idxAddrA, ev1_sliceArr, ev1_bytesStr, ev2_alloc, ev3_store, kSt_app, ev1_idxStr, ev1_sliceStr, ev1_convI, ev1_eqt, ev1_eqf, ev1_un, ev1_extract, u_not, ex_0, ex_1, evo_none, evo_some, evt, evc, evg, evf, evs0, evs1, ev3_call, b_add, b_sub, b_mul, b_rem, b_quo, b_adds, b_lss, b_leq, b_gtr, b_geq, lenS_eq, lenL_eq, sl_to, s_idx, convI_eq, s_shl64, s_shr64, n_int, e_int, wrap_i64, wrap_u64, wrap_u32, wrap_u8, not_t, not_f, dec_t, dec_f, cond_t, cond_f, gt_set_same, gt_set_ne, len_set, hl, hq, hr, h5, h19]; rfl
    case B1 =>
      simp (disch := first | decide | omega | (simp only [len_set, hl] <;> omega)) only [gt_set_same, gt_set_ne, len_set, hl, h5, h19, true_and, and_true]
      unfold x0 y0
      rw [if_pos h0]
      exact ⟨by congr 1, by congr 1⟩
  case neg =>
    refine ⟨?E2, fun h d kn kx => ?A2, ?B2⟩
    case A2 => unfold rdA rdB rdC; simp -implicitDefEqProofs (disch := first | decide | omega | (simp only [len_set, hl] <;> omega)) only [evC_seq, evC_reg, evC_dreg, evC_cond, evC_block, evC_loop, evC_exit, evC_ret, evC_skip, kS_app, kB_exit, kB_ne, kB_ret, kL_app, kO_app, kN_app, kO2_app, kO3_app, kN3_app, kC_app, kG_app, kG3_app, kU_app, kD_app, kCall_app, evOps_oa, evOps_ob, evOps_oc, evOps_na, evOps_nc, evOps_ga, evOps_gc, evOps_nil, isB_tt, isB_tf, isB_ft, isB_ff, pick_t, pick_f, evD_l, evD_h, evD_nil, ev1_mov, ev1_pick, ev1_bin, ev1_lenS, ev1_lenL, ev1_load, ev1_idxA, ev1_idxAddrA, ev1_sliceArr, ev1_bytesStr, ev2_alloc, ev3_store, kSt_app, ev1_idxStr, ev1_sliceStr, ev1_convI, ev1_eqt, ev1_eqf, ev1_un, ev1_extract, u_not, ex_0, ex_1, evo_none, evo_some, evt, evc, evg, evf, evs0, evs1, ev3_call, b_add, b_sub, b_mul, b_rem, b_quo, b_adds, b_lss, b_leq, b_gtr, b_geq, lenS_eq, lenL_eq, sl_to, s_idx, convI_eq, s_shl64, s_shr64, n_int, e_int, wrap_i64, wrap_u64, wrap_u32, wrap_u8, not_t, not_f, dec_t, dec_f, cond_t, cond_f, gt_set_same, gt_set_ne, len_set, hl, hq, hr, h5, h19]; rfl
    case B2 =>
      simp (disch := first | decide | omega | (simp only [len_set, hl] <;> omega)) only [gt_set_same, gt_set_ne, len_set, hl, h5, h19, true_and, and_true]
      unfold x0 y0
      rw [if_neg h0]
      exact ⟨by congr 1, by congr 1⟩
theorem rd_back (i k X Y B : Nat) (tr : Tr) (fl : FT) (es : List (Nat × Ent)) (nx low : Nat) (env : Env) (hi : i < 4) (hk : k < 2) (hX : X < 200) (hY : Y < 200) (hz : fl.fz = 0) (hl : env.length = 67) (h3 : gt env 3 = .pointer (some ⟨B, 0, none⟩)) (h4 : gt env 4 = .int .i64 (i : Int)) (h6 : gt env 6 = .int .i64 (k : Int))
    (h7 : gt env 7 = .int .i64 (X : Int)) (h8 : gt env 8 = .int .i64 (Y : Int)) :
    ∃ env', (∀ d kn kx, evC N okf evD call rdE env { es := (B, .cells tr 16 false fl) :: es, nx := nx, low := low } d kn kx = kn env' { es := (B, .cells ((tr.set (pX k i) (.int .u8 (X : Int))).set (pY k i) (.int .u8 (Y : Int))) 16 false fl) :: es, nx := nx, low := low } d) ∧ env'.length = 67 ∧
      gt env' 0 = gt env 0 ∧ gt env' 3 = gt env 3 ∧ gt env' 4 = gt env 4 ∧ gt env' 9 = gt env 9 ∧ gt env' 19 = gt env 19 ∧ gt env' 5 = gt env 5 := by
  have e1 : ((8 : Int) * (k : Int) + (i : Int) + 1).tmod 16 = ((pX k i : Nat) : Int) := rfl
  have e2 : ((8 : Int) * (k : Int) + 4 + (i : Int) + 1).tmod 16 = ((pY k i : Nat) : Int) := rfl
  have p1 : pX k i < 16 := Nat.mod_lt _ (by omega)
  have p2 : pY k i < 16 := Nat.mod_lt _ (by omega)
  refine ⟨?E1, fun d kn kx => ?A1, ?B1⟩
  case A1 => unfold rdE; simp -implicitDefEqProofs (disch := first | decide | omega | (simp only [len_set, hl] <;> omega)) only [evC_seq, evC_reg, evC_dreg, evC_cond, evC_block, evC_loop, evC_exit, evC_ret, evC_skip, kS_app, kB_exit, kB_ne, kB_ret, kL_app, kO_app, kN_app, kO2_app, kO3_app, kN3_app, kC_app, kG_app, kG3_app, kU_app, kD_app, kCall_app, evOps_oa, evOps_ob, evOps_oc, evOps_na, evOps_nc, evOps_ga, evOps_gc, evOps_nil, isB_tt, isB_tf, isB_ft, isB_ff, pick_t, pick_f, evD_l, evD_h, evD_nil, ev1_mov, ev1_pick, ev1_bin, ev1_lenS, ev1_lenL, ev1_load, ev1_idxA, ev1_idxAddrA, ev1_sliceArr, ev1_bytesStr, ev2_alloc, ev3_store, kSt_app, ev1_idxStr, ev1_sliceStr, ev1_convI, ev1_eqt, ev1_eqf, ev1_un, ev1_extract, u_not, ex_0, ex_1, evo_none, evo_some, evt, evc, evg, evf, evs0, evs1, ev3_call, b_add, b_sub, b_mul, b_rem, b_quo, b_adds, b_lss, b_leq, b_gtr, b_geq, lenS_eq, lenL_eq, sl_to, s_idx, convI_eq, s_shl64, s_shr64, n_int, e_int, wrap_i64, wrap_u64, wrap_u32, wrap_u8, not_t, not_f, dec_t, dec_f, cond_t, cond_f, gt_set_same, gt_set_ne, len_set, hl, e1, e2, ia_16, st_16, h3, h4, h6, h7, h8]; rfl
  case B1 =>
    simp (disch := first | decide | omega | (simp only [len_set, hl] <;> omega)) only [gt_set_same, gt_set_ne, len_set, hl, true_and, and_true]
theorem round_step (F : Nat) (hB : BarOK call F) (hN : 8 < N) (i k b B : Nat) (tr : Tr) (fl : FT) (es : List (Nat × Ent)) (nx low : Nat) (env : Env) (hi : i < 4) (hk : k < 2) (hb : b < 256) (hz : fl.fz = 0) (hbar : look ((B, Ent.cells tr 16 false fl) :: es) 0 = some (entR barL)) (hks : KeysLt nx ((B, Ent.cells tr 16 false fl) :: es))
    (hl : env.length = 67) (h3 : gt env 3 = .pointer (some ⟨B, 0, none⟩)) (h4 : gt env 4 = .int .i64 (i : Int)) (h5 : gt env 5 = .int .i64 (b : Int)) (h19 : gt env 19 = .int .i64 (k : Int)) :
    ∃ env' nx', (∀ d kn kx, evC N okf evD call (roundBody F) env { es := (B, .cells tr 16 false fl) :: es, nx := nx, low := low } d kn kx = kn env' { es := (B, .cells ((tr.set (pX k i) (.int .u8 (chX b k : Nat))).set (pY k i) (.int .u8 (chY b k : Nat))) 16 false fl) :: es, nx := nx', low := low } d) ∧ nx ≤ nx' ∧ env'.length = 67 ∧
      gt env' 0 = gt env 0 ∧ gt env' 3 = .pointer (some ⟨B, 0, none⟩) ∧ gt env' 4 = .int .i64 (i : Int) ∧ gt env' 9 = gt env 9 ∧ gt env' 19 = .int .i64 ((k + 1 : Nat) : Int) ∧ gt env' 5 = .int .i64 (b : Int) := by
  have hl0 : (env.set 20 (.bool true)).length = 67 := by simp (disch := first | decide | omega | (simp only [len_set, hl] <;> omega)) only [gt_set_same, gt_set_ne, len_set, hl]
  obtain ⟨env1, a1, a2, a3, a4, a5, a6, a7, a8, a9, a10, a11⟩ := rd_front (N := N) (okf := okf) (call := call) (.seq (.block 4 (.loop (whBody F))) rdE) b k (env.set 20 (.bool true)) hb hk hl0 (by simp (disch := first | decide | omega | (simp only [len_set, hl] <;> omega)) only [gt_set_same, gt_set_ne, len_set, hl, h5]) (by simp (disch := first | decide | omega | (simp only [len_set, hl] <;> omega)) only [gt_set_same, gt_set_ne, len_set, hl, h19])
  have hj := jf_le 8 (x0 b k) (y0 b)
  have hx : x0 b k < 120 ∧ 48 ≤ x0 b k := by unfold x0; split <;> omega
  have hy : y0 b < 120 ∧ 48 ≤ y0 b := by unfold y0; omega
  obtain ⟨env2, nx2, b1, b2, b3, b4, b5, b6⟩ := wh_loop (N := N) (okf := okf) F hB 8 N (x0 b k) (y0 b) env1 ((B, .cells tr 16 false fl) :: es) nx low (chars_fin b hb k hk) hN hbar hks (by omega) (by omega) (by omega) (by omega) a2 a3 a4
  have c7 : gt env2 7 = .int .i64 ((chX b k : Nat) : Int) := by rw [b4]; rfl
  have c8 : gt env2 8 = .int .i64 ((chY b k : Nat) : Int) := by
    rw [b5]; congr 1
    show ((y0 b : Nat) : Int) - (chJ b k : Nat) = ((y0 b - chJ b k : Nat) : Int)
    have : chJ b k ≤ 8 := hj
    omega
  obtain ⟨k0, k3, k4, k5, k6, k9, k19⟩ := b6
  have hXl : chX b k < 200 := by unfold chX; have : chJ b k ≤ 8 := hj; omega
  have hYl : chY b k < 200 := by unfold chY; omega
  obtain ⟨env3, d1, d2, d3, d4, d5, d6, d7, d8⟩ := rd_back (N := N) (okf := okf) (call := call) i k (chX b k) (chY b k) B tr fl es nx2 low env2 hi hk hXl hYl hz b3 (by rw [k3, a7]; simp (disch := first | decide | omega | (simp only [len_set, hl] <;> omega)) only [gt_set_same, gt_set_ne, len_set, hl, h3]) (by rw [k4, a8]; simp (disch := first | decide | omega | (simp only [len_set, hl] <;> omega)) only [gt_set_same, gt_set_ne, len_set, hl, h4]) (by rw [k6, a5]) c7 c8
  have f19 : gt env3 19 = .int .i64 (k : Int) := by rw [d7, k19, a10]; simp (disch := first | decide | omega | (simp only [len_set, hl] <;> omega)) only [gt_set_same, gt_set_ne, len_set, hl, h19]
  have hl3 := d2
  refine ⟨?E1, nx2, fun d kn kx => ?A1, b2, ?B1⟩
  case A1 =>
    unfold roundBody
    simp -implicitDefEqProofs (disch := first | decide | omega | (simp only [len_set, hl] <;> omega)) only [evC_seq, evC_reg, evC_dreg, evC_cond, evC_block, evC_loop, evC_exit, evC_ret, evC_skip, kS_app, kB_exit, kB_ne, kB_ret, kL_app, kO_app, kN_app, kO2_app, kO3_app, kN3_app, kC_app, kG_app, kG3_app, kU_app, kD_app, kCall_app, evOps_oa, evOps_ob, evOps_oc, evOps_na, evOps_nc, evOps_ga, evOps_gc, evOps_nil, isB_tt, isB_tf, isB_ft, isB_ff, pick_t, pick_f, evD_l, evD_h, evD_nil, ev1_mov, ev1_pick, ev1_bin, ev1_lenS, ev1_lenL, ev1_load, ev1_idxA, ev1_idxAddrA, ev1_sliceArr, ev1_bytesStr, ev2_alloc, ev3_store, kSt_app, ev1_idxStr, ev1_sliceStr, ev1_convI, ev1_eqt, ev1_eqf, ev1_un, ev1_extract, u_not, ex_0, ex_1, evo_none, evo_some, evt, evc, evg, evf, evs0, evs1, ev3_call, b_add, b_sub, b_mul, b_rem, b_quo, b_adds, b_lss, b_leq, b_gtr, b_geq, lenS_eq, lenL_eq, sl_to, s_idx, convI_eq, s_shl64, s_shr64, n_int, e_int, wrap_i64, wrap_u64, wrap_u32, wrap_u8, not_t, not_f, dec_t, dec_f, cond_t, cond_f, gt_set_same, gt_set_ne, len_set, hl, h19, a1, b1, d1, f19]
    rfl
  case B1 =>
    have hl := d2
    simp (disch := first | decide | omega | (simp only [len_set, hl] <;> omega)) only [gt_set_same, gt_set_ne, len_set, hl, d3, d4, d5, d6, d8, k0, k3, k4, k5, k9, a6, a7, a8, a9, a11, h3, h4, h5, true_and, and_true]
    exact rfl
end
end
end Go.Ev
