/- The code of a number, as the program finds it: the whole. No condition. -/
import Derived.Test.YtjldlfaoocmpjaaDoorCode2
import Derived.KernelRfl
set_option linter.unusedVariables false
set_option linter.unusedSimpArgs false
namespace Go.Ev
open Go
noncomputable section
def outBody (F : Nat) : C := .seq (.reg [
    .o 10 (.a (.bin .lss (.t 9) (.c (.int .i64 4))))])
    (.seq (.cond (.t 10)
      .skip
      (.exit 0))
    (.seq (.block 1
     (.seq (.reg [
     .o 11 (.a (.mov (.t 9))),
     .o 4 (.a (.mov (.t 11)))])
     (.seq (.reg [
     .o 12 (.a (.mov (.t 0))),
     .o 13 (.a (.mov (.t 4))),
     .o 14 (.a (.bin .mul (.c (.int .i64 8)) (.t 13))),
     .o 15 (.a (.bin .sub (.c (.int .i64 24)) (.t 14))),
     .o 16 (.a (.bin .shr (.t 12) (.t 15))),
     .o 17 (.a (.bin .and (.t 16) (.c (.int .u32 255)))),
     .o 18 (.a (.convI .i64 (.t 17))),
     .o 5 (.a (.mov (.t 18)))])
     (.seq (.reg [
     .o 19 (.a (.mov (.c (.int .i64 0))))])
     (.block 2 (.loop (roundBody F)))))))
    (.reg [
    .o 64 (.a (.bin .add (.t 9) (.c (.int .i64 1)))),
    .o 9 (.a (.mov (.t 64)))])))
def cCode (F : Nat) (ty : TypeId) : C :=
  (.seq (.reg [
  .o 2 (.a (.mov (.c (.string ⟨⟨[]⟩⟩))))])
  (.seq (.reg [
  .o 3 (.b (.alloc (some ty) [(.int .u8 0), (.int .u8 0), (.int .u8 0), (.int .u8 0), (.int .u8 0), (.int .u8 0), (.int .u8 0), (.int .u8 0), (.int .u8 0), (.int .u8 0), (.int .u8 0), (.int .u8 0), (.int .u8 0), (.int .u8 0), (.int .u8 0), (.int .u8 0)]))])
  (.seq (.seq (.reg [
  .o 9 (.a (.mov (.c (.int .i64 0))))])
  (.block 0 (.loop (outBody F))))
  (.seq (.reg [
  .o 65 (.a (.sliceArr 16 1 (.t 3) none none none)),
  .o 66 (.a (.bytesStr (.t 65))),
  .o 2 (.a (.mov (.t 66)))])
  .ret))))
def fdCode (F : Nat) (ty : TypeId) : FD := ⟨67, cCode F ty, [.t 2]⟩
/-- a byte of a number -/
def bt (v i : Nat) : Nat := v / 2 ^ (24 - 8 * i) % 256
theorem bt_lt (v i : Nat) : bt v i < 256 := Nat.mod_lt _ (by omega)
def setsI (v i : Nat) (tr : Tr) : Tr := (((tr.set (pX 0 i) (.int .u8 (chX (bt v i) 0 : Nat))).set (pY 0 i) (.int .u8 (chY (bt v i) 0 : Nat))).set (pX 1 i) (.int .u8 (chX (bt v i) 1 : Nat))).set (pY 1 i) (.int .u8 (chY (bt v i) 1 : Nat))
def z16 : Tr := Tr.ofList [(.int .u8 0), (.int .u8 0), (.int .u8 0), (.int .u8 0), (.int .u8 0), (.int .u8 0), (.int .u8 0), (.int .u8 0), (.int .u8 0), (.int .u8 0), (.int .u8 0), (.int .u8 0), (.int .u8 0), (.int .u8 0), (.int .u8 0), (.int .u8 0)]
def codeT (v : Nat) : Tr := setsI v 3 (setsI v 2 (setsI v 1 (setsI v 0 z16)))
def codeL (v : Nat) : List Value := [.int .u8 ((chY (bt v 3) 1 : Nat) : Int), .int .u8 ((chX (bt v 0) 0 : Nat) : Int), .int .u8 ((chX (bt v 1) 0 : Nat) : Int), .int .u8 ((chX (bt v 2) 0 : Nat) : Int), .int .u8 ((chX (bt v 3) 0 : Nat) : Int), .int .u8 ((chY (bt v 0) 0 : Nat) : Int), .int .u8 ((chY (bt v 1) 0 : Nat) : Int), .int .u8 ((chY (bt v 2) 0 : Nat) : Int), .int .u8 ((chY (bt v 3) 0 : Nat) : Int), .int .u8 ((chX (bt v 0) 1 : Nat) : Int), .int .u8 ((chX (bt v 1) 1 : Nat) : Int), .int .u8 ((chX (bt v 2) 1 : Nat) : Int), .int .u8 ((chX (bt v 3) 1 : Nat) : Int), .int .u8 ((chY (bt v 0) 1 : Nat) : Int), .int .u8 ((chY (bt v 1) 1 : Nat) : Int), .int .u8 ((chY (bt v 2) 1 : Nat) : Int)]
def codeB (v : Nat) : List UInt8 := [UInt8.ofNat (chY (bt v 3) 1), UInt8.ofNat (chX (bt v 0) 0), UInt8.ofNat (chX (bt v 1) 0), UInt8.ofNat (chX (bt v 2) 0), UInt8.ofNat (chX (bt v 3) 0), UInt8.ofNat (chY (bt v 0) 0), UInt8.ofNat (chY (bt v 1) 0), UInt8.ofNat (chY (bt v 2) 0), UInt8.ofNat (chY (bt v 3) 0), UInt8.ofNat (chX (bt v 0) 1), UInt8.ofNat (chX (bt v 1) 1), UInt8.ofNat (chX (bt v 2) 1), UInt8.ofNat (chX (bt v 3) 1), UInt8.ofNat (chY (bt v 0) 1), UInt8.ofNat (chY (bt v 1) 1), UInt8.ofNat (chY (bt v 2) 1)]
def codeS (v : Nat) : ByteArray := ⟨(codeB v).toArray⟩
theorem codeT_get (v : Nat) : getN (codeT v) 0 16 = some (codeL v) := rfl
theorem codeL_bytes (v : Nat) : bytesL (codeL v) = some (codeB v) := rfl
theorem s_shr32 (a : Int) (k' : IntKind) (x : Int) (f : Value → R) (h1 : 0 ≤ x) (h2 : x ≤ 32) : evBin .shr (.int .u32 a) (.int k' x) f = f (.int .u32 (a / 2 ^ x.toNat)) := by
  obtain ⟨n, rfl⟩ := Int.eq_ofNat_of_zero_le h1
  exact b_shr .u32 a k' n (by have : IntKind.u32.bits = 32 := rfl
                              omega)
theorem and_255 (a : Int) (f : Value → R) (h1 : 0 ≤ a) (h2 : a < 4294967296) : evBin .and (.int .u32 a) (.int .u32 255) f = f (.int .u32 (wrapW .u32 (a % 256))) :=
  and_low .u32 a 8 h1 h2 (by decide)
theorem look_bar {B : Nat} {e : Ent} {es : List (Nat × Ent)} (hB : B ≠ 0) (h : look es 0 = some (entR barL)) : look ((B, e) :: es) 0 = some (entR barL) := by
  rw [look_cons, if_neg (fun e => hB e.symm)]; exact h
theorem keys_cons {B n : Nat} {e : Ent} {es : List (Nat × Ent)} (hB : B < n) (h : KeysLt n es) : KeysLt n ((B, e) :: es) := fun p hp => by
  rcases List.mem_cons.1 hp with rfl | hp
  · exact hB
  · exact h p hp
section
variable {N : Nat} {okf : Nat → Bool} {call : Call}
theorem round_exit (F : Nat) (env : Env) (hl : env.length = 67) (h19 : gt env 19 = .int .i64 2) :
    ∃ env', (∀ h d kn kx, evC N okf evD call (roundBody F) env h d kn kx = kx (.exit 2) env' h d) ∧ env'.length = 67 ∧ gt env' 0 = gt env 0 ∧ gt env' 3 = gt env 3 ∧ gt env' 9 = gt env 9 := by
  refine ⟨?E1, fun h d kn kx => ?A1, ?B1⟩
  case A1 => unfold roundBody; simp -implicitDefEqProofs (disch := first | decide | omega | (simp only [len_set, hl] <;> omega)) only [evC_seq, evC_reg, evC_dreg, evC_cond, evC_block, evC_loop, evC_exit, evC_ret, evC_skip, kS_app, kB_exit, kB_ne, kB_ret, kL_app, kO_app, kN_app, kO2_app, kO3_app, kN3_app, kC_app, kG_app, kG3_app, kU_app, kD_app, kCall_app, evOps_oa, evOps_ob, evOps_oc, evOps_na, evOps_nc, evOps_ga, evOps_gc, evOps_nil, isB_tt, isB_tf, isB_ft, isB_ff, pick_t, pick_f, evD_l, evD_h, evD_nil, ev1_mov, ev1_pick, ev1_bin, ev1_lenS, ev1_lenL, ev1_load, ev1_idxA, ev1_idxAddrA, ev1_sliceArr, ev1_bytesStr, ev2_alloc, ev3_store, kSt_app, ev1_idxStr, ev1_sliceStr, ev1_convI, ev1_eqt, ev1_eqf, ev1_un, ev1_extract, u_not, ex_0, ex_1, evo_none, evo_some, evt, evc, evg, evf, evs0, evs1, ev3_call, b_add, b_sub, b_mul, b_rem, b_quo, b_adds, b_lss, b_leq, b_gtr, b_geq, lenS_eq, lenL_eq, sl_to, s_idx, convI_eq, s_shl64, s_shr64, n_int, e_int, wrap_i64, wrap_u64, wrap_u32, wrap_u8, not_t, not_f, dec_t, dec_f, cond_t, cond_f, gt_set_same, gt_set_ne, len_set, hl, h19]; rfl
  case B1 => simp (disch := first | decide | omega | (simp only [len_set, hl] <;> omega)) only [gt_set_same, gt_set_ne, len_set, hl, and_self]
theorem inner (F : Nat) (hC : BarOK call F) (hN : 8 < N) (n : Nat) (hn : 3 ≤ n) (v i B : Nat) (tr : Tr) (fl : FT) (es : List (Nat × Ent)) (nx low : Nat) (env : Env) (hi : i < 4) (hz : fl.fz = 0) (hB : B ≠ 0) (hBn : B < nx) (hbar : look es 0 = some (entR barL)) (hks : KeysLt nx es)
    (hl : env.length = 67) (h3 : gt env 3 = .pointer (some ⟨B, 0, none⟩)) (h4 : gt env 4 = .int .i64 (i : Int)) (h5 : gt env 5 = .int .i64 (bt v i : Nat)) (h19 : gt env 19 = .int .i64 ((0 : Nat) : Int)) :
    ∃ env' nx', (∀ d kx, loopD (evC N okf evD call (roundBody F)) kx n env { es := (B, .cells tr 16 false fl) :: es, nx := nx, low := low } d = kx (.exit 2) env' { es := (B, .cells (setsI v i tr) 16 false fl) :: es, nx := nx', low := low } d) ∧ nx ≤ nx' ∧ env'.length = 67 ∧
      gt env' 0 = gt env 0 ∧ gt env' 3 = .pointer (some ⟨B, 0, none⟩) ∧ gt env' 9 = gt env 9 := by
  obtain ⟨n, rfl⟩ : ∃ k, n = k + 3 := ⟨n - 3, by omega⟩
  obtain ⟨env1, nx1, a1, a2, a3, a4, a5, a6, a7, a8, a9⟩ := round_step (N := N) (okf := okf) F hC hN i 0 (bt v i) B tr fl es nx low env hi (by omega) (bt_lt v i) hz (look_bar hB hbar) (keys_cons hBn hks) hl h3 h4 h5 h19
  obtain ⟨env2, nx2, b1, b2, b3, b4, b5, b6, b7, b8, b9⟩ := round_step (N := N) (okf := okf) F hC hN i 1 (bt v i) B _ fl es nx1 low env1 hi (by omega) (bt_lt v i) hz (look_bar hB hbar) (keys_cons (by omega) (hks.mono a2)) a3 a5 a6 a9 a8
  obtain ⟨env3, c1, c2, c3, c4, c5⟩ := round_exit (N := N) (okf := okf) (call := call) F env2 b3 b8
  refine ⟨env3, nx2, fun d kx => ?_, by omega, c2, by rw [c3, b4, a4], by rw [c4, b5], by rw [c5, b7, a7]⟩
  rw [loopD_succ, a1, kL_app, loopD_succ, b1, kL_app, loopD_succ, c1]
  rfl
theorem out_step (F : Nat) (hC : BarOK call F) (hN : 8 < N) (v i B : Nat) (tr : Tr) (fl : FT) (es : List (Nat × Ent)) (nx low : Nat) (env : Env) (hv : v < 4294967296) (hi : i < 4) (hz : fl.fz = 0) (hB : B ≠ 0) (hBn : B < nx) (hbar : look es 0 = some (entR barL)) (hks : KeysLt nx es)
    (hl : env.length = 67) (h0 : gt env 0 = .int .u32 (v : Int)) (h3 : gt env 3 = .pointer (some ⟨B, 0, none⟩)) (h9 : gt env 9 = .int .i64 (i : Int)) :
    ∃ env' nx', (∀ d kn kx, evC N okf evD call (outBody F) env { es := (B, .cells tr 16 false fl) :: es, nx := nx, low := low } d kn kx = kn env' { es := (B, .cells (setsI v i tr) 16 false fl) :: es, nx := nx', low := low } d) ∧ nx ≤ nx' ∧ env'.length = 67 ∧
      gt env' 0 = .int .u32 (v : Int) ∧ gt env' 3 = .pointer (some ⟨B, 0, none⟩) ∧ gt env' 9 = .int .i64 ((i + 1 : Nat) : Int) := by
  have hb : ((v : Int) / 2 ^ ((24 : Int) - 8 * (i : Int)).toNat) % 256 = ((bt v i : Nat) : Int) := by
    have e : ((24 : Int) - 8 * (i : Int)).toNat = 24 - 8 * i := by omega
    rw [e]; unfold bt
    rw [Int.natCast_emod, Int.natCast_ediv, Int.natCast_pow]; rfl
  have hd : 0 ≤ (v : Int) / 2 ^ ((24 : Int) - 8 * (i : Int)).toNat ∧ (v : Int) / 2 ^ ((24 : Int) - 8 * (i : Int)).toNat < 4294967296 := by
    have hp : (0 : Int) ≤ 2 ^ ((24 : Int) - 8 * (i : Int)).toNat := by
      have : (2 : Int) ^ ((24 : Int) - 8 * (i : Int)).toNat = ((2 ^ ((24 : Int) - 8 * (i : Int)).toNat : Nat) : Int) := by rw [Int.natCast_pow]; rfl
      rw [this]; exact Int.natCast_nonneg _
    refine ⟨Int.ediv_nonneg (Int.natCast_nonneg _) hp, ?_⟩
    have := Int.ediv_le_self (2 ^ ((24 : Int) - 8 * (i : Int)).toNat) (Int.natCast_nonneg v)
    omega
  have hbl := bt_lt v i
  have hfront : ∃ env1, (∀ h d kn kx, evC N okf evD call (outBody F) env h d kn kx = loopD (evC N okf evD call (roundBody F)) (kB 2 (kS N okf evD call (.reg [.o 64 (.a (.bin .add (.t 9) (.c (.int .i64 1)))), .o 9 (.a (.mov (.t 64)))]) kn kx) (kB 1 (kS N okf evD call (.reg [.o 64 (.a (.bin .add (.t 9) (.c (.int .i64 1)))), .o 9 (.a (.mov (.t 64)))]) kn kx) kx)) N env1 h d) ∧
      env1.length = 67 ∧ gt env1 0 = .int .u32 (v : Int) ∧ gt env1 3 = .pointer (some ⟨B, 0, none⟩) ∧ gt env1 4 = .int .i64 (i : Int) ∧ gt env1 5 = .int .i64 (bt v i : Nat) ∧ gt env1 9 = .int .i64 (i : Int) ∧ gt env1 19 = .int .i64 ((0 : Nat) : Int) := by
    refine ⟨?E1, fun h d kn kx => ?A1, ?B1⟩
    case A1 => unfold outBody; simp -implicitDefEqProofs (disch := first | decide | omega | (simp only [len_set, hl] <;> omega)) only [evC_seq, evC_reg, evC_dreg, evC_cond, evC_block, evC_loop, evC_exit, evC_ret, evC_skip, kS_app, kB_exit, kB_ne, kB_ret, kL_app, kO_app, kN_app, kO2_app, kO3_app, kN3_app, kC_app, kG_app, kG3_app, kU_app, kD_app, kCall_app, evOps_oa, evOps_ob, evOps_oc, evOps_na, evOps_nc, evOps_ga, evOps_gc, evOps_nil, isB_tt, isB_tf, isB_ft, isB_ff, pick_t, pick_f, evD_l, evD_h, evD_nil, ev1_mov, ev1_pick, ev1_bin, ev1_lenS, ev1_lenL, ev1_load, ev1_idxA, ev1_idxAddrA, ev1_sliceArr, ev1_bytesStr, ev2_alloc, ev3_store, kSt_app, ev1_idxStr, ev1_sliceStr, ev1_convI, ev1_eqt, ev1_eqf, ev1_un, ev1_extract, u_not, ex_0, ex_1, evo_none, evo_some, evt, evc, evg, evf, evs0, evs1, ev3_call, b_add, b_sub, b_mul, b_rem, b_quo, b_adds, b_lss, b_leq, b_gtr, b_geq, lenS_eq, lenL_eq, sl_to, s_idx, convI_eq, s_shl64, s_shr64, n_int, e_int, wrap_i64, wrap_u64, wrap_u32, wrap_u8, not_t, not_f, dec_t, dec_f, cond_t, cond_f, gt_set_same, gt_set_ne, len_set, hl, s_shr32, and_255, hb, h0, h3, h9]; rfl
    case B1 =>
      simp (disch := first | decide | omega | (simp only [len_set, hl] <;> omega)) only [gt_set_same, gt_set_ne, len_set, hl, h0, h3, h9, true_and, and_true]
      exact rfl
  obtain ⟨env1, a1, a2, a3, a4, a5, a6, a7, a8⟩ := hfront
  obtain ⟨env2, nx2, b1, b2, b3, b4, b5, b6⟩ := inner (N := N) (okf := okf) F hC hN N (by omega) v i B tr fl es nx low env1 hi hz hB hBn hbar hks a2 a4 a5 a6 a8
  have g9 : gt env2 9 = .int .i64 (i : Int) := by rw [b6, a7]
  refine ⟨?E2, nx2, fun d kn kx => ?A2, b2, ?B2⟩
  case A2 =>
    rw [a1, b1]
    have hl := b3
    simp -implicitDefEqProofs (disch := first | decide | omega | (simp only [len_set, hl] <;> omega)) only [evC_seq, evC_reg, evC_dreg, evC_cond, evC_block, evC_loop, evC_exit, evC_ret, evC_skip, kS_app, kB_exit, kB_ne, kB_ret, kL_app, kO_app, kN_app, kO2_app, kO3_app, kN3_app, kC_app, kG_app, kG3_app, kU_app, kD_app, kCall_app, evOps_oa, evOps_ob, evOps_oc, evOps_na, evOps_nc, evOps_ga, evOps_gc, evOps_nil, isB_tt, isB_tf, isB_ft, isB_ff, pick_t, pick_f, evD_l, evD_h, evD_nil, ev1_mov, ev1_pick, ev1_bin, ev1_lenS, ev1_lenL, ev1_load, ev1_idxA, ev1_idxAddrA, ev1_sliceArr, ev1_bytesStr, ev2_alloc, ev3_store, kSt_app, ev1_idxStr, ev1_sliceStr, ev1_convI, ev1_eqt, ev1_eqf, ev1_un, ev1_extract, u_not, ex_0, ex_1, evo_none, evo_some, evt, evc, evg, evf, evs0, evs1, ev3_call, b_add, b_sub, b_mul, b_rem, b_quo, b_adds, b_lss, b_leq, b_gtr, b_geq, lenS_eq, lenL_eq, sl_to, s_idx, convI_eq, s_shl64, s_shr64, n_int, e_int, wrap_i64, wrap_u64, wrap_u32, wrap_u8, not_t, not_f, dec_t, dec_f, cond_t, cond_f, gt_set_same, gt_set_ne, len_set, hl, g9]
    rfl
  case B2 =>
    have hl := b3
    simp (disch := first | decide | omega | (simp only [len_set, hl] <;> omega)) only [gt_set_same, gt_set_ne, len_set, hl, b4, b5, a3, true_and, and_true]
    exact rfl
theorem out_exit (F : Nat) (env : Env) (hl : env.length = 67) (h9 : gt env 9 = .int .i64 4) :
    ∃ env', (∀ h d kn kx, evC N okf evD call (outBody F) env h d kn kx = kx (.exit 0) env' h d) ∧ env'.length = 67 ∧ gt env' 3 = gt env 3 := by
  refine ⟨?E1, fun h d kn kx => ?A1, ?B1⟩
  case A1 => unfold outBody; simp -implicitDefEqProofs (disch := first | decide | omega | (simp only [len_set, hl] <;> omega)) only [evC_seq, evC_reg, evC_dreg, evC_cond, evC_block, evC_loop, evC_exit, evC_ret, evC_skip, kS_app, kB_exit, kB_ne, kB_ret, kL_app, kO_app, kN_app, kO2_app, kO3_app, kN3_app, kC_app, kG_app, kG3_app, kU_app, kD_app, kCall_app, evOps_oa, evOps_ob, evOps_oc, evOps_na, evOps_nc, evOps_ga, evOps_gc, evOps_nil, isB_tt, isB_tf, isB_ft, isB_ff, pick_t, pick_f, evD_l, evD_h, evD_nil, ev1_mov, ev1_pick, ev1_bin, ev1_lenS, ev1_lenL, ev1_load, ev1_idxA, ev1_idxAddrA, ev1_sliceArr, ev1_bytesStr, ev2_alloc, ev3_store, kSt_app, ev1_idxStr, ev1_sliceStr, ev1_convI, ev1_eqt, ev1_eqf, ev1_un, ev1_extract, u_not, ex_0, ex_1, evo_none, evo_some, evt, evc, evg, evf, evs0, evs1, ev3_call, b_add, b_sub, b_mul, b_rem, b_quo, b_adds, b_lss, b_leq, b_gtr, b_geq, lenS_eq, lenL_eq, sl_to, s_idx, convI_eq, s_shl64, s_shr64, n_int, e_int, wrap_i64, wrap_u64, wrap_u32, wrap_u8, not_t, not_f, dec_t, dec_f, cond_t, cond_f, gt_set_same, gt_set_ne, len_set, hl, h9]; rfl
  case B1 => simp (disch := first | decide | omega | (simp only [len_set, hl] <;> omega)) only [gt_set_same, gt_set_ne, len_set, hl, and_self]
theorem out_loop (F : Nat) (hC : BarOK call F) (hN : 8 < N) (v B : Nat) (fl : FT) (es : List (Nat × Ent)) (nx low : Nat) (env : Env) (hv : v < 4294967296) (hz : fl.fz = 0) (hB : B ≠ 0) (hBn : B < nx) (hbar : look es 0 = some (entR barL)) (hks : KeysLt nx es)
    (hl : env.length = 67) (h0 : gt env 0 = .int .u32 (v : Int)) (h3 : gt env 3 = .pointer (some ⟨B, 0, none⟩)) (h9 : gt env 9 = .int .i64 ((0 : Nat) : Int)) :
    ∃ env' nx', (∀ d kx, loopD (evC N okf evD call (outBody F)) kx N env { es := (B, .cells z16 16 false fl) :: es, nx := nx, low := low } d = kx (.exit 0) env' { es := (B, .cells (codeT v) 16 false fl) :: es, nx := nx', low := low } d) ∧ nx ≤ nx' ∧ env'.length = 67 ∧ gt env' 3 = .pointer (some ⟨B, 0, none⟩) := by
  obtain ⟨env1, nx1, a1, a2, a3, a4, a5, a6⟩ := out_step (N := N) (okf := okf) F hC hN v 0 B z16 fl es nx low env hv (by omega) hz hB hBn hbar hks hl h0 h3 h9
  obtain ⟨env2, nx2, b1, b2, b3, b4, b5, b6⟩ := out_step (N := N) (okf := okf) F hC hN v 1 B _ fl es nx1 low env1 hv (by omega) hz hB (by omega) hbar (hks.mono a2) a3 a4 a5 a6
  obtain ⟨env3, nx3, c1, c2, c3, c4, c5, c6⟩ := out_step (N := N) (okf := okf) F hC hN v 2 B _ fl es nx2 low env2 hv (by omega) hz hB (by omega) hbar (hks.mono (by omega)) b3 b4 b5 b6
  obtain ⟨env4, nx4, d1, d2, d3, d4, d5, d6⟩ := out_step (N := N) (okf := okf) F hC hN v 3 B _ fl es nx3 low env3 hv (by omega) hz hB (by omega) hbar (hks.mono (by omega)) c3 c4 c5 c6
  obtain ⟨env5, e1, e2, e3⟩ := out_exit (N := N) (okf := okf) (call := call) F env4 d3 d6
  have key : ∀ n, 5 ≤ n → ∀ d kx, loopD (evC N okf evD call (outBody F)) kx n env { es := (B, .cells z16 16 false fl) :: es, nx := nx, low := low } d = kx (.exit 0) env5 { es := (B, .cells (codeT v) 16 false fl) :: es, nx := nx4, low := low } d := fun n hn d kx => by
    obtain ⟨n, rfl⟩ : ∃ k, n = k + 5 := ⟨n - 5, by omega⟩
    rw [loopD_succ, a1, kL_app, loopD_succ, b1, kL_app, loopD_succ, c1, kL_app, loopD_succ, d1, kL_app, loopD_succ, e1]
    rfl
  exact ⟨env5, nx4, key N (by omega), by omega, e2, by rw [e3, d5]⟩
theorem al_16 (ty : TypeId) (h : H) (k : KV) : alloc (some ty) [(.int .u8 0), (.int .u8 0), (.int .u8 0), (.int .u8 0), (.int .u8 0), (.int .u8 0), (.int .u8 0), (.int .u8 0), (.int .u8 0), (.int .u8 0), (.int .u8 0), (.int .u8 0), (.int .u8 0), (.int .u8 0), (.int .u8 0), (.int .u8 0)] h k = k (.pointer (some ⟨h.nx, 0, none⟩)) { es := (h.nx, .cells z16 16 false ⟨true, some ty, 0, true⟩) :: h.es, nx := h.nx + 1, low := h.low } := rfl
theorem sa_16 (B : Nat) (f : Value → R) : sliceArr 16 1 (.pointer (some ⟨B, 0, none⟩)) none none none f = f (.slice (some ⟨B, 0, none⟩) 16 32) := rfl
theorem bs_16 (B v nx low : Nat) (fl : FT) (es : List (Nat × Ent)) (f : Value → R) : bytesStr (.slice (some ⟨B, 0, none⟩) 16 32) { es := (B, .cells (codeT v) 16 false fl) :: es, nx := nx, low := low } f = f (.string (codeS v)) := by
  have e : getN (codeT v) 0 (Nat.mul 16 1) = some (codeL v) := codeT_get v
  have e0 : Nat.beq 16 0 = false := rfl
  simp only [bytesStr, cellsIn, e0, cellsAt, look_head, e, codeL_bytes]
  rfl
theorem code_fn {dcall : DCall} (F : Nat) (hC : BarOK call F) (hN : 8 < N) (ty : TypeId) (v : Nat) (hv : v < 4294967296) (h : H) (hb : look h.es 0 = some (entR barL)) (hk : KeysLt h.nx h.es) (hn : 0 < h.nx) :
    ∃ m, ∀ kR kP, evFn N okf evD call dcall (fdCode F ty) [.int .u32 (v : Int)] h kR kP = kR (.string (codeS v)) { es := h.es, nx := h.nx + 1 + m, low := h.low } := by
  have hl0 : (Env.start [.int .u32 (v : Int)] (Nat.sub 67 1) undef).length = 67 := by rw [len_start]; rfl
  have h00 : gt (Env.start [.int .u32 (v : Int)] (Nat.sub 67 1) undef) 0 = .int .u32 (v : Int) := by rw [gt_start]; rfl
  have hc : ∃ env' nx', (∀ kn kx, evC N okf evD call (cCode F ty) (Env.start [.int .u32 (v : Int)] (Nat.sub 67 1) undef) { es := h.es, nx := h.nx, low := h.nx } [] kn kx = kx .ret env' { es := (h.nx, .cells (codeT v) 16 false ⟨true, some ty, 0, true⟩) :: h.es, nx := nx', low := h.nx } []) ∧ h.nx + 1 ≤ nx' ∧ gt env' 2 = .string (codeS v) := by
    generalize Env.start [.int .u32 (v : Int)] (Nat.sub 67 1) undef = env at *
    have hl := hl0
    obtain ⟨env1, nx1, a1, a2, a3, a4⟩ := out_loop (N := N) (okf := okf) F hC hN v h.nx ⟨true, some ty, 0, true⟩ h.es (h.nx + 1) h.nx (((env.set 2 (.string ⟨⟨[]⟩⟩)).set 3 (.pointer (some ⟨h.nx, 0, none⟩))).set 9 (.int .i64 0)) hv rfl (by omega) (by omega) hb (hk.mono (by omega))
      (by simp (disch := first | decide | omega | (simp only [len_set, hl] <;> omega)) only [gt_set_same, gt_set_ne, len_set, hl]) (by simp (disch := first | decide | omega | (simp only [len_set, hl] <;> omega)) only [gt_set_same, gt_set_ne, len_set, hl, h00]) (by simp (disch := first | decide | omega | (simp only [len_set, hl] <;> omega)) only [gt_set_same, gt_set_ne, len_set, hl]) (by simp (disch := first | decide | omega | (simp only [len_set, hl] <;> omega)) only [gt_set_same, gt_set_ne, len_set, hl]; rfl)
    have hl1 := a3
    refine ⟨?E1, nx1, fun kn kx => ?A1, a2, ?B1⟩
    case A1 =>
      unfold cCode
      simp -implicitDefEqProofs (disch := first | decide | omega | (simp only [len_set, hl] <;> omega)) only [evC_seq, evC_reg, evC_dreg, evC_cond, evC_block, evC_loop, evC_exit, evC_ret, evC_skip, kS_app, kB_exit, kB_ne, kB_ret, kL_app, kO_app, kN_app, kO2_app, kO3_app, kN3_app, kC_app, kG_app, kG3_app, kU_app, kD_app, kCall_app, evOps_oa, evOps_ob, evOps_oc, evOps_na, evOps_nc, evOps_ga, evOps_gc, evOps_nil, isB_tt, isB_tf, isB_ft, isB_ff, pick_t, pick_f, evD_l, evD_h, evD_nil, ev1_mov, ev1_pick, ev1_bin, ev1_lenS, ev1_lenL, ev1_load, ev1_idxA, ev1_idxAddrA, ev1_sliceArr, ev1_bytesStr, ev2_alloc, ev3_store, kSt_app, ev1_idxStr, ev1_sliceStr, ev1_convI, ev1_eqt, ev1_eqf, ev1_un, ev1_extract, u_not, ex_0, ex_1, evo_none, evo_some, evt, evc, evg, evf, evs0, evs1, ev3_call, b_add, b_sub, b_mul, b_rem, b_quo, b_adds, b_lss, b_leq, b_gtr, b_geq, lenS_eq, lenL_eq, sl_to, s_idx, convI_eq, s_shl64, s_shr64, n_int, e_int, wrap_i64, wrap_u64, wrap_u32, wrap_u8, not_t, not_f, dec_t, dec_f, cond_t, cond_f, gt_set_same, gt_set_ne, len_set, hl, al_16, a1, a4, sa_16, bs_16, hl1]
      rfl
    case B1 =>
      have hl := a3
      simp (disch := first | decide | omega | (simp only [len_set, hl] <;> omega)) only [gt_set_same, gt_set_ne, len_set, hl, a4]
  obtain ⟨env', nx', e1, e2, e3⟩ := hc
  refine ⟨nx' - (h.nx + 1), fun kR kP => ?_⟩
  unfold fdCode
  rw [evFn_st e1, e3, gc_scal _ _ _ _ _ (by omega) rfl, older_new _ _ _ _ (by omega), older_id hk]
  have : nx' = h.nx + 1 + (nx' - (h.nx + 1)) := by omega
  rw [← this]
end
end
end Go.Ev
