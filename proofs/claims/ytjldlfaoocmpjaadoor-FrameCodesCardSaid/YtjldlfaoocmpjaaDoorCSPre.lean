/- FrameSums, run with any two strings. No condition. -/
import Derived.Test.YtjldlfaoocmpjaaDoorCSAlive1
import Derived.Test.YtjldlfaoocmpjaaDoorTotL
set_option linter.unusedVariables false
set_option linter.unusedSimpArgs false
open Go Go.Ev Go.Proofs.Tryd
set_option maxRecDepth 100000
namespace CSTold
noncomputable section
def cSum : C :=
  (.seq (.reg [
  .o 2 (.a (.mov (.c (.int .u32 0)))),
  .o 3 (.a (.mov (.c (.int .i64 0))))])
  (.seq (.seq (.reg [
  .o 4 (.a (.mov (.t 0))),
  .o 5 (.a (.lenS (.t 4))),
  .o 6 (.a (.bin .rem (.t 5) (.c (.int .i64 4)))),
  .o 7 (.a (.eq .num true (.t 6) (.c (.int .i64 0))))])
  (.cond (.t 7)
    (.seq (.reg [
    .o 2 (.a (.mov (.c (.int .u32 0)))),
    .o 3 (.a (.mov (.c (.int .i64 2))))])
    .ret)
    .skip))
  (.seq (.reg [
  .o 8 (.a (.mov (.t 0))),
  .o 9 (.c (.call 10 [(.t 8)])),
  .o 2 (.a (.mov (.t 9))),
  .o 3 (.a (.mov (.c (.int .i64 0))))])
  .ret)))
def fdSum : FD := ⟨10, cSum, [.t 2, .t 3]⟩
def cSums : C :=
  (.seq (.reg [
  .o 4 (.a (.mov (.c (.bool false))))])
  (.seq (.reg [
  .o 15 (.c (.call 5 [])),
  .o 5 (.a (.mov (.t 15)))])
  (.seq (.seq (.reg [
  .o 16 (.a (.mov (.t 0))),
  .o 17 (.a (.lenS (.t 16))),
  .o 18 (.a (.bin .gtr (.t 17) (.c (.int .i64 3000)))),
  .o 19 (.a (.mov (.t 18))),
  .g 19 false 20 (.a (.mov (.t 1))),
  .g 19 false 21 (.a (.lenS (.t 20))),
  .g 19 false 22 (.a (.bin .gtr (.t 21) (.c (.int .i64 3000)))),
  .o 23 (.a (.pick (.t 19) (.c (.bool true)) (.t 22))),
  .o 24 (.a (.mov (.t 23))),
  .g 24 false 25 (.a (.mov (.t 0))),
  .g 24 false 26 (.a (.lenS (.t 25))),
  .g 24 false 27 (.a (.bin .rem (.t 26) (.c (.int .i64 4)))),
  .g 24 false 28 (.a (.eq .num true (.t 27) (.c (.int .i64 0)))),
  .o 29 (.a (.pick (.t 24) (.c (.bool true)) (.t 28))),
  .o 30 (.a (.mov (.t 29))),
  .g 30 false 31 (.a (.mov (.t 1))),
  .g 30 false 32 (.a (.lenS (.t 31))),
  .g 30 false 33 (.a (.bin .rem (.t 32) (.c (.int .i64 4)))),
  .g 30 false 34 (.a (.eq .num true (.t 33) (.c (.int .i64 0)))),
  .o 35 (.a (.pick (.t 30) (.c (.bool true)) (.t 34))),
  .o 36 (.a (.mov (.t 35))),
  .g 36 false 37 (.a (.mov (.t 5))),
  .g 36 false 38 (.a (.un .not (.t 37))),
  .o 39 (.a (.pick (.t 36) (.c (.bool true)) (.t 38)))])
  (.cond (.t 39)
    (.seq (.reg [
    .o 40 (.a (.mov (.t 5))),
    .o 4 (.a (.mov (.t 40)))])
    .ret)
    .skip))
  (.seq (.reg [
  .o 42 (.a (.mov (.t 0))),
  .o 43 (.c (.call 7 [(.t 42)])),
  .o 41 (.a (.mov (.t 43))),
  .o 44 (.a (.extract (.t 41) 0)),
  .o 45 (.a (.extract (.t 41) 1)),
  .o 6 (.a (.mov (.t 44))),
  .o 7 (.a (.mov (.t 45)))])
  (.seq (.reg [
  .o 47 (.a (.mov (.t 1))),
  .o 48 (.c (.call 7 [(.t 47)])),
  .o 46 (.a (.mov (.t 48))),
  .o 49 (.a (.extract (.t 46) 0)),
  .o 50 (.a (.extract (.t 46) 1)),
  .o 8 (.a (.mov (.t 49))),
  .o 9 (.a (.mov (.t 50)))])
  (.seq (.reg [
  .o 52 (.a (.mov (.t 0))),
  .o 53 (.a (.mov (.t 1))),
  .o 54 (.a (.bin .add (.t 52) (.t 53))),
  .o 55 (.c (.call 7 [(.t 54)])),
  .o 51 (.a (.mov (.t 55))),
  .o 56 (.a (.extract (.t 51) 0)),
  .o 57 (.a (.extract (.t 51) 1)),
  .o 10 (.a (.mov (.t 56))),
  .o 11 (.a (.mov (.t 57)))])
  (.seq (.reg [
  .o 59 (.a (.mov (.t 1))),
  .o 60 (.a (.mov (.t 0))),
  .o 61 (.a (.bin .add (.t 59) (.t 60))),
  .o 62 (.c (.call 7 [(.t 61)])),
  .o 58 (.a (.mov (.t 62))),
  .o 63 (.a (.extract (.t 58) 0)),
  .o 64 (.a (.extract (.t 58) 1)),
  .o 12 (.a (.mov (.t 63))),
  .o 13 (.a (.mov (.t 64)))])
  (.seq (.reg [
  .o 65 (.a (.mov (.t 6))),
  .o 66 (.a (.convI .u64 (.t 65))),
  .o 67 (.a (.mov (.t 8))),
  .o 68 (.a (.convI .u64 (.t 67))),
  .o 69 (.a (.bin .add (.t 66) (.t 68))),
  .o 14 (.a (.mov (.t 69)))])
  (.seq (.seq (.reg [
  .o 70 (.a (.mov (.t 14))),
  .o 71 (.a (.bin .geq (.t 70) (.c (.int .u64 4294967296))))])
  (.cond (.t 71)
    (.reg [
    .o 72 (.a (.mov (.t 14))),
    .o 73 (.a (.bin .sub (.t 72) (.c (.int .u64 4294967296)))),
    .o 74 (.a (.bin .add (.t 73) (.c (.int .u64 1)))),
    .o 14 (.a (.mov (.t 74)))])
    .skip))
  (.seq (.reg [
  .o 75 (.a (.mov (.t 5))),
  .o 76 (.a (.mov (.t 75))),
  .g 76 true 77 (.a (.mov (.t 7))),
  .g 76 true 78 (.a (.eq .num false (.t 77) (.c (.int .i64 0)))),
  .o 79 (.a (.pick (.t 76) (.t 78) (.c (.bool false)))),
  .o 80 (.a (.mov (.t 79))),
  .g 80 true 81 (.a (.mov (.t 9))),
  .g 80 true 82 (.a (.eq .num false (.t 81) (.c (.int .i64 0)))),
  .o 83 (.a (.pick (.t 80) (.t 82) (.c (.bool false)))),
  .o 84 (.a (.mov (.t 83))),
  .g 84 true 85 (.a (.mov (.t 11))),
  .g 84 true 86 (.a (.eq .num false (.t 85) (.c (.int .i64 0)))),
  .o 87 (.a (.pick (.t 84) (.t 86) (.c (.bool false)))),
  .o 88 (.a (.mov (.t 87))),
  .g 88 true 89 (.a (.mov (.t 13))),
  .g 88 true 90 (.a (.eq .num false (.t 89) (.c (.int .i64 0)))),
  .o 91 (.a (.pick (.t 88) (.t 90) (.c (.bool false)))),
  .o 92 (.a (.mov (.t 91))),
  .g 92 true 93 (.a (.mov (.t 10))),
  .g 92 true 94 (.a (.mov (.t 12))),
  .g 92 true 95 (.a (.eq .num false (.t 93) (.t 94))),
  .o 96 (.a (.pick (.t 92) (.t 95) (.c (.bool false)))),
  .o 97 (.a (.mov (.t 96))),
  .g 97 true 98 (.a (.mov (.t 10))),
  .g 97 true 99 (.a (.convI .u64 (.t 98))),
  .g 97 true 100 (.a (.mov (.t 14))),
  .g 97 true 101 (.a (.eq .num false (.t 99) (.t 100))),
  .o 102 (.a (.pick (.t 97) (.t 101) (.c (.bool false)))),
  .o 4 (.a (.mov (.t 102)))])
  .ret))))))))))
def fdSums : FD := ⟨103, cSums, [.t 4]⟩

theorem tab7 : told1.tab 7 = some fdSum := by kernel_rfl
theorem tab4 : told1.tab 4 = some fdSums := by kernel_rfl
theorem tab10n : told1.tab 10 = none := by kernel_rfl
theorem tot_call (n : Nat) (s : ByteArray) (hs : s.size < 70000) (h : H) (kR kP : KV) : told1.call 20000 (n + 1) (.fn 10) [.string s] h kR kP = kR (.int .u32 (totF s)) h := by
  rw [told1.call_ext 20000 n 10 tab10n]
  exact totO_eq s hs h kR
theorem sum_call (n : Nat) (s : ByteArray) (hs : s.size < 70000) (h4 : s.size % 4 = 0) (h : H) (kR kP : KV) : told1.call 20000 (n + 2) (.fn 7) [.string s] h kR kP = kR (.tuple #[.int .u32 (totF s), .int .i64 0]) h := by
  rw [told1.call_succ 20000 (n + 1) 7 tab7]
  have hc : ∃ env', (∀ h d kn kx, evC 20000 told1.okf evD (told1.call 20000 (n + 1)) cSum (Env.start [.string s] (Nat.sub 10 [Value.string s].length) Ev.undef) h d kn kx = kx .ret env' h d) ∧ gt env' 2 = .int .u32 (totF s) ∧ gt env' 3 = .int .i64 0 := by
    have hl : (Env.start [.string s] (Nat.sub 10 [Value.string s].length) Ev.undef).length = 10 := by rw [len_start]; rfl
    have h0 : gt (Env.start [.string s] (Nat.sub 10 [Value.string s].length) Ev.undef) 0 = .string s := by rw [gt_start]; rfl
    generalize Env.start [.string s] (Nat.sub 10 [Value.string s].length) Ev.undef = env at *
    have hm : (s.size : Int).tmod 4 = 0 := by rw [Int.tmod_eq_emod_of_nonneg (by omega)]; omega
    have ht : ∀ h kR kP, told1.call 20000 (n + 1) (.fn 10) [.string s] h kR kP = kR (.int .u32 (totF s)) h := fun h kR kP => tot_call n s hs h kR kP
    refine ⟨?E, fun h d kn kx => ?A, ?B⟩
    case A =>
      unfold cSum
      simp (disch := first | decide | omega | (simp only [len_set, hl] <;> omega)) only [evC_seq, evC_reg, evC_dreg, evC_cond, evC_block, evC_loop, evC_exit, evC_ret, evC_skip, kS_app, kB_exit, kB_ne, kB_ret, kL_app, kO_app, kN_app, kO2_app, kO3_app, kN3_app, kC_app, kG_app, kG3_app, kU_app, kD_app, kCall_app, evOps_oa, evOps_ob, evOps_oc, evOps_na, evOps_nc, evOps_ga, evOps_gc, evOps_nil, isB_tt, isB_tf, isB_ft, isB_ff, isB_u, pick_t, pick_f, evD_l, evD_h, evD_nil, ev1_mov, ev1_pick, ev1_bin, ev1_lenS, ev1_lenL, ev1_idxStr, ev1_sliceStr, ev1_convI, ev1_eqt, ev1_eqf, ev1_un, ev1_extract, u_not, ex_0, ex_1, evo_none, evo_some, evt, evc, evg, evf, evs0, evs1, ev3_call, b_add, b_sub, b_mul, b_rem, b_adds, b_lss, b_leq, b_gtr, b_geq, lenS_eq, lenL_eq, s_idx, convI_eq, s_shl64, s_shr64, n_int, e_int, wrap_i64, wrap_u64, not_t, not_f, dec_t, dec_f, cond_t, cond_f, gt_set_same, gt_set_ne, len_set, hl, hm, ht, h0]
      rfl
    case B =>
      simp (disch := first | decide | omega | (simp only [len_set, hl] <;> omega)) only [gt_set_same, gt_set_ne, len_set, hl, h0, and_self]
  obtain ⟨env', e1, e2, e3⟩ := hc
  unfold fdSum
  rw [evFn_ret2 e1, e2, e3]
def tabs : List (List Value) := [barredLL.flatten.map fun z => .int .i64 z, pow10L.map fun z => .int .u64 z]
def H0 : H := { es := slotsG [0, 1] tabs, nx := prog.globals.size, low := prog.globals.size }
theorem alive_call (kR kP : KV) : told1.call 20000 199 (.fn 5) [] H0 kR kP = kR (.bool true) H0 := by kernel_rfl
end
end CSTold
