/- A code's characters, as the program finds them. No condition. -/
import Derived.Test.YtjldlfaoocmpjaaDoorBar
set_option linter.unusedVariables false
set_option linter.unusedSimpArgs false
namespace Go.Ev
open Go
noncomputable section
def whBody (F : Nat) : C := (.seq (.seq (.reg [
          .o 34 (.a (.mov (.t 7))),
          .o 35 (.c (.call F [(.t 34)])),
          .o 36 (.a (.mov (.t 35))),
          .g 36 false 37 (.a (.mov (.t 8))),
          .g 36 false 38 (.c (.call F [(.t 37)])),
          .o 39 (.a (.pick (.t 36) (.c (.bool true)) (.t 38)))])
          (.cond (.t 39)
            .skip
            (.exit 4)))
          (.block 5
           (.reg [
           .o 40 (.a (.mov (.t 7))),
           .o 41 (.a (.bin .add (.t 40) (.c (.int .i64 1)))),
           .o 42 (.a (.mov (.t 8))),
           .o 43 (.a (.bin .sub (.t 42) (.c (.int .i64 1)))),
           .o 7 (.a (.mov (.t 41))),
           .o 8 (.a (.mov (.t 43)))])))
def BarOK (call : Call) (F : Nat) : Prop := ∀ (h : H) (c : Int), look h.es 0 = some (entR barL) → KeysLt h.nx h.es →
  ∃ m, ∀ kR kP, call (.fn F) [.int .i64 c] h kR kP = kR (.bool (barB c)) { es := h.es, nx := h.nx + 1 + m, low := h.low }
theorem KeysLt.mono {n m : Nat} {l : List (Nat × Ent)} (h : KeysLt n l) (hm : n ≤ m) : KeysLt m l := fun p hp => Nat.lt_of_lt_of_le (h p hp) hm
def Keep (env env' : Env) : Prop := gt env' 0 = gt env 0 ∧ gt env' 3 = gt env 3 ∧ gt env' 4 = gt env 4 ∧ gt env' 5 = gt env 5 ∧ gt env' 6 = gt env 6 ∧ gt env' 9 = gt env 9 ∧ gt env' 19 = gt env 19
theorem Keep.trans {a b c : Env} (h : Keep a b) (k : Keep b c) : Keep a c := ⟨k.1.trans h.1, k.2.1.trans h.2.1, k.2.2.1.trans h.2.2.1, k.2.2.2.1.trans h.2.2.2.1, k.2.2.2.2.1.trans h.2.2.2.2.1, k.2.2.2.2.2.1.trans h.2.2.2.2.2.1, k.2.2.2.2.2.2.trans h.2.2.2.2.2.2⟩
section
variable {N : Nat} {okf : Nat → Bool} {call : Call}
theorem wh_step (F : Nat) (hB : BarOK call F) (x y : Int) (env : Env) (es : List (Nat × Ent)) (nx low : Nat) (hb : look es 0 = some (entR barL)) (hk : KeysLt nx es) (hx0 : 0 ≤ x) (hx1 : x < 200) (hy0 : 0 ≤ y) (hy1 : y < 200)
    (hbar : (barB x || barB y) = true) (hl : env.length = 67) (h7 : gt env 7 = .int .i64 x) (h8 : gt env 8 = .int .i64 y) :
    ∃ env' nx', (∀ d kn kx, evC N okf evD call (whBody F) env { es := es, nx := nx, low := low } d kn kx = kn env' { es := es, nx := nx', low := low } d) ∧ nx ≤ nx' ∧ env'.length = 67 ∧ gt env' 7 = .int .i64 (x + 1) ∧ gt env' 8 = .int .i64 (y - 1) ∧ Keep env env' := by
  obtain ⟨m1, c1⟩ := hB { es := es, nx := nx, low := low } x hb hk
  simp only at c1
  cases q : barB x with
  | true =>
    rw [q] at c1
    refine ⟨?E1, ?N1, fun d kn kx => ?A1, ?B1, ?C1⟩
    case A1 => unfold whBody; simp -implicitDefEqProofs (disch := first | decide | omega | (simp only [len_set, hl] <;> omega)) only [evC_seq, evC_reg, evC_dreg, evC_cond, evC_block, evC_loop, evC_exit, evC_ret, evC_skip, kS_app, kB_exit, kB_ne, kB_ret, kL_app, kO_app, kN_app, kO2_app, kO3_app, kN3_app, kC_app, kG_app, kG3_app, kU_app, kD_app, kCall_app, evOps_oa, evOps_ob, evOps_oc, evOps_na, evOps_nc, evOps_ga, evOps_gc, evOps_nil, isB_tt, isB_tf, isB_ft, isB_ff, pick_t, pick_f, evD_l, evD_h, evD_nil, ev1_mov, ev1_pick, ev1_bin, ev1_lenS, ev1_lenL, ev1_load, ev1_idxA, ev1_idxAddrA, ev1_sliceArr, ev1_bytesStr, ev2_alloc, ev3_store, kSt_app, ev1_idxStr, ev1_sliceStr, ev1_convI, ev1_eqt, ev1_eqf, ev1_un, ev1_extract, u_not, ex_0, ex_1, evo_none, evo_some, evt, evc, evg, evf, evs0, evs1, ev3_call, b_add, b_sub, b_mul, b_rem, b_adds, b_lss, b_leq, b_gtr, b_geq, lenS_eq, lenL_eq, sl_to, s_idx, convI_eq, s_shl64, s_shr64, n_int, e_int, wrap_i64, wrap_u64, not_t, not_f, dec_t, dec_f, cond_t, cond_f, gt_set_same, gt_set_ne, len_set, hl, c1, h7, h8]; rfl
    case B1 => omega
    case C1 => unfold Keep; simp (disch := first | decide | omega | (simp only [len_set, hl] <;> omega)) only [gt_set_same, gt_set_ne, len_set, hl, and_self, h7, h8]
  | false =>
    rw [q, Bool.false_or] at hbar
    obtain ⟨m2, c2⟩ := hB { es := es, nx := nx + 1 + m1, low := low } y hb (hk.mono (by show nx ≤ nx + 1 + m1; omega))
    rw [q] at c1
    rw [hbar] at c2
    refine ⟨?E2, ?N2, fun d kn kx => ?A2, ?B2, ?C2⟩
    case A2 => unfold whBody; simp -implicitDefEqProofs (disch := first | decide | omega | (simp only [len_set, hl] <;> omega)) only [evC_seq, evC_reg, evC_dreg, evC_cond, evC_block, evC_loop, evC_exit, evC_ret, evC_skip, kS_app, kB_exit, kB_ne, kB_ret, kL_app, kO_app, kN_app, kO2_app, kO3_app, kN3_app, kC_app, kG_app, kG3_app, kU_app, kD_app, kCall_app, evOps_oa, evOps_ob, evOps_oc, evOps_na, evOps_nc, evOps_ga, evOps_gc, evOps_nil, isB_tt, isB_tf, isB_ft, isB_ff, pick_t, pick_f, evD_l, evD_h, evD_nil, ev1_mov, ev1_pick, ev1_bin, ev1_lenS, ev1_lenL, ev1_load, ev1_idxA, ev1_idxAddrA, ev1_sliceArr, ev1_bytesStr, ev2_alloc, ev3_store, kSt_app, ev1_idxStr, ev1_sliceStr, ev1_convI, ev1_eqt, ev1_eqf, ev1_un, ev1_extract, u_not, ex_0, ex_1, evo_none, evo_some, evt, evc, evg, evf, evs0, evs1, ev3_call, b_add, b_sub, b_mul, b_rem, b_adds, b_lss, b_leq, b_gtr, b_geq, lenS_eq, lenL_eq, sl_to, s_idx, convI_eq, s_shl64, s_shr64, n_int, e_int, wrap_i64, wrap_u64, not_t, not_f, dec_t, dec_f, cond_t, cond_f, gt_set_same, gt_set_ne, len_set, hl, c1, c2, h7, h8]; rfl
    case B2 => omega
    case C2 => unfold Keep; simp (disch := first | decide | omega | (simp only [len_set, hl] <;> omega)) only [gt_set_same, gt_set_ne, len_set, hl, and_self, h7, h8]
theorem wh_exit (F : Nat) (hB : BarOK call F) (x y : Int) (env : Env) (es : List (Nat × Ent)) (nx low : Nat) (hb : look es 0 = some (entR barL)) (hk : KeysLt nx es)
    (hbar : (barB x || barB y) = false) (hl : env.length = 67) (h7 : gt env 7 = .int .i64 x) (h8 : gt env 8 = .int .i64 y) :
    ∃ env' nx', (∀ d kn kx, evC N okf evD call (whBody F) env { es := es, nx := nx, low := low } d kn kx = kx (.exit 4) env' { es := es, nx := nx', low := low } d) ∧ nx ≤ nx' ∧ env'.length = 67 ∧ gt env' 7 = .int .i64 x ∧ gt env' 8 = .int .i64 y ∧ Keep env env' := by
  rw [Bool.or_eq_false_iff] at hbar
  obtain ⟨m1, c1⟩ := hB { es := es, nx := nx, low := low } x hb hk
  obtain ⟨m2, c2⟩ := hB { es := es, nx := nx + 1 + m1, low := low } y hb (hk.mono (by show nx ≤ nx + 1 + m1; omega))
  rw [hbar.1] at c1
  rw [hbar.2] at c2
  simp only at c1
  refine ⟨?E2, ?N2, fun d kn kx => ?A2, ?B2, ?C2⟩
  case A2 => unfold whBody; simp -implicitDefEqProofs (disch := first | decide | omega | (simp only [len_set, hl] <;> omega)) only [evC_seq, evC_reg, evC_dreg, evC_cond, evC_block, evC_loop, evC_exit, evC_ret, evC_skip, kS_app, kB_exit, kB_ne, kB_ret, kL_app, kO_app, kN_app, kO2_app, kO3_app, kN3_app, kC_app, kG_app, kG3_app, kU_app, kD_app, kCall_app, evOps_oa, evOps_ob, evOps_oc, evOps_na, evOps_nc, evOps_ga, evOps_gc, evOps_nil, isB_tt, isB_tf, isB_ft, isB_ff, pick_t, pick_f, evD_l, evD_h, evD_nil, ev1_mov, ev1_pick, ev1_bin, ev1_lenS, ev1_lenL, ev1_load, ev1_idxA, ev1_idxAddrA, ev1_sliceArr, ev1_bytesStr, ev2_alloc, ev3_store, kSt_app, ev1_idxStr, ev1_sliceStr, ev1_convI, ev1_eqt, ev1_eqf, ev1_un, ev1_extract, u_not, ex_0, ex_1, evo_none, evo_some, evt, evc, evg, evf, evs0, evs1, ev3_call, b_add, b_sub, b_mul, b_rem, b_adds, b_lss, b_leq, b_gtr, b_geq, lenS_eq, lenL_eq, sl_to, s_idx, convI_eq, s_shl64, s_shr64, n_int, e_int, wrap_i64, wrap_u64, not_t, not_f, dec_t, dec_f, cond_t, cond_f, gt_set_same, gt_set_ne, len_set, hl, c1, c2, h7, h8]; rfl
  case B2 => omega
  case C2 => unfold Keep; simp (disch := first | decide | omega | (simp only [len_set, hl] <;> omega)) only [gt_set_same, gt_set_ne, len_set, hl, and_self, h7, h8]
/-- how often both characters are moved -/
def jf : Nat → Int → Int → Nat
  | 0, _, _ => 0
  | n + 1, x, y => if (barB x || barB y) = true then jf n (x + 1) (y - 1) + 1 else 0
def jfin : Nat → Int → Int → Bool
  | 0, x, y => !(barB x || barB y)
  | n + 1, x, y => if (barB x || barB y) = true then jfin n (x + 1) (y - 1) else true
theorem jf_le : ∀ (n : Nat) (x y : Int), jf n x y ≤ n := by
  intro n
  induction n with
  | zero => intro x y; exact Nat.le_refl _
  | succ n ih => intro x y; simp only [jf]; split; have := ih (x + 1) (y - 1); omega; omega
theorem wh_loop (F : Nat) (hB : BarOK call F) : ∀ (j n : Nat) (x y : Int) (env : Env) (es : List (Nat × Ent)) (nx low : Nat), jfin j x y = true → j < n → look es 0 = some (entR barL) → KeysLt nx es → 0 ≤ x → x + j < 200 → j ≤ y → y < 200 → env.length = 67 → gt env 7 = .int .i64 x → gt env 8 = .int .i64 y →
    ∃ env' nx', (∀ d kx, loopD (evC N okf evD call (whBody F)) kx n env { es := es, nx := nx, low := low } d = kx (.exit 4) env' { es := es, nx := nx', low := low } d) ∧ nx ≤ nx' ∧ env'.length = 67 ∧ gt env' 7 = .int .i64 (x + jf j x y) ∧ gt env' 8 = .int .i64 (y - jf j x y) ∧ Keep env env' := by
  intro j
  induction j with
  | zero =>
    intro n x y env es nx low hf hn hb hk hx0 hx1 hy0 hy1 hl h7 h8
    obtain ⟨n, rfl⟩ : ∃ k, n = k + 1 := ⟨n - 1, by omega⟩
    have hf : (barB x || barB y) = false := by simpa [jfin] using hf
    obtain ⟨env', nx', e1, e2, e3, e4, e5, e6⟩ := wh_exit (N := N) (okf := okf) F hB x y env es nx low hb hk hf hl h7 h8
    exact ⟨env', nx', fun d kx => by rw [loopD_succ, e1], e2, e3, by rw [e4]; simp [jf], by rw [e5]; simp [jf], e6⟩
  | succ j ih =>
    intro n x y env es nx low hf hn hb hk hx0 hx1 hy0 hy1 hl h7 h8
    obtain ⟨n, rfl⟩ : ∃ k, n = k + 1 := ⟨n - 1, by omega⟩
    by_cases hbar : (barB x || barB y) = true
    · obtain ⟨env', nx', e1, e2, e3, e4, e5, e6⟩ := wh_step (N := N) (okf := okf) F hB x y env es nx low hb hk hx0 (by omega) (by omega) hy1 hbar hl h7 h8
      have hf' : jfin j (x + 1) (y - 1) = true := by simpa only [jfin, if_pos hbar] using hf
      obtain ⟨env'', nx'', f1, f2, f3, f4, f5, f6⟩ := ih n (x + 1) (y - 1) env' es nx' low hf' (by omega) hb (hk.mono e2) (by omega) (by omega) (by omega) (by omega) e3 e4 e5
      refine ⟨env'', nx'', fun d kx => by rw [loopD_succ, e1, kL_app, f1], by omega, f3, ?_, ?_, e6.trans f6⟩
      · rw [f4]; simp only [jf, if_pos hbar]; congr 1; omega
      · rw [f5]; simp only [jf, if_pos hbar]; congr 1; omega
    · have hb0 : (barB x || barB y) = false := by simpa using hbar
      obtain ⟨env', nx', e1, e2, e3, e4, e5, e6⟩ := wh_exit (N := N) (okf := okf) F hB x y env es nx low hb hk hb0 hl h7 h8
      refine ⟨env', nx', fun d kx => by rw [loopD_succ, e1], e2, e3, ?_, ?_, e6⟩
      · rw [e4]; simp [jf, hb0]
      · rw [e5]; simp [jf, hb0]
end
end
end Go.Ev
