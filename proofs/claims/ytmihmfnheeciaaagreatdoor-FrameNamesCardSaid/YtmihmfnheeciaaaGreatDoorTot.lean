/- The sum of a string's words, as the program finds it. No condition. -/
import Derived.Test.YtmihmfnheeciaaaGreatDoorEvF
set_option linter.unusedVariables false
set_option linter.unusedSimpArgs false
namespace Go.Ev
open Go
noncomputable section
def totHead : C := (.seq (.reg [
    .o 5 (.a (.mov (.t 4))),
    .o 6 (.a (.bin .add (.t 5) (.c (.int .i64 3)))),
    .o 7 (.a (.mov (.t 0))),
    .o 8 (.a (.lenS (.t 7))),
    .o 9 (.a (.bin .lss (.t 6) (.t 8)))])
    (.cond (.t 9)
      .skip
      (.exit 0)))
def totStep : List DSt := [
     .l (.o 12 (.a (.mov (.t 3)))) [],
     .l (.o 13 (.a (.mov (.t 0)))) [],
     .l (.o 14 (.a (.mov (.t 4)))) [],
     .l (.o 15 (.a (.idxStr (.t 13) (.t 14)))) [],
     .l (.o 16 (.a (.convI .u64 (.t 15)))) [],
     .l (.o 17 (.a (.bin .shl (.t 16) (.c (.int .u64 24))))) [],
     .l (.o 18 (.a (.mov (.t 0)))) [],
     .l (.o 19 (.a (.mov (.t 4)))) [],
     .l (.o 20 (.a (.bin .add (.t 19) (.c (.int .i64 1))))) [],
     .l (.o 21 (.a (.idxStr (.t 18) (.t 20)))) [],
     .l (.o 22 (.a (.convI .u64 (.t 21)))) [],
     .l (.o 23 (.a (.bin .shl (.t 22) (.c (.int .u64 16))))) [],
     .l (.o 24 (.a (.bin .or (.t 17) (.t 23)))) [],
     .l (.o 25 (.a (.mov (.t 0)))) [],
     .l (.o 26 (.a (.mov (.t 4)))) [],
     .l (.o 27 (.a (.bin .add (.t 26) (.c (.int .i64 2))))) [],
     .l (.o 28 (.a (.idxStr (.t 25) (.t 27)))) [],
     .l (.o 29 (.a (.convI .u64 (.t 28)))) [],
     .l (.o 30 (.a (.bin .shl (.t 29) (.c (.int .u64 8))))) [],
     .l (.o 31 (.a (.bin .or (.t 24) (.t 30)))) [],
     .l (.o 32 (.a (.mov (.t 0)))) [],
     .l (.o 33 (.a (.mov (.t 4)))) [],
     .l (.o 34 (.a (.bin .add (.t 33) (.c (.int .i64 3))))) [],
     .l (.o 35 (.a (.idxStr (.t 32) (.t 34)))) [],
     .l (.o 36 (.a (.convI .u64 (.t 35)))) [],
     .l (.o 37 (.a (.bin .or (.t 31) (.t 36)))) [],
     .l (.o 38 (.a (.bin .add (.t 12) (.t 37)))) [],
     .h (.o 3 (.a (.mov (.t 38)))) [] []]
def totNext : List O := [
    .o 10 (.a (.mov (.t 4))),
    .o 11 (.a (.bin .add (.t 10) (.c (.int .i64 4)))),
    .o 4 (.a (.mov (.t 11)))]
def totBody : C := .seq totHead (.seq (.block 1 (.dreg [12, 13, 14, 15, 16, 17, 18, 19, 20, 21, 22, 23, 24, 25, 26, 27, 28, 29, 30, 31, 32, 33, 34, 35, 36, 37, 38, 3] totStep)) (.reg totNext))
def foldBody : C := (.seq (.seq (.reg [
    .o 39 (.a (.mov (.t 3))),
    .o 40 (.a (.bin .shr (.t 39) (.c (.int .u64 32)))),
    .o 41 (.a (.eq .num true (.t 40) (.c (.int .u64 0))))])
    (.cond (.t 41)
      .skip
      (.exit 2)))
    (.block 3
     (.reg [
     .o 42 (.a (.mov (.t 3))),
     .o 43 (.a (.bin .shr (.t 42) (.c (.int .u64 32)))),
     .o 44 (.a (.mov (.t 3))),
     .o 45 (.a (.bin .and (.t 44) (.c (.int .u64 4294967295)))),
     .o 46 (.a (.bin .add (.t 43) (.t 45))),
     .o 3 (.a (.mov (.t 46)))])))
def cTotal : C :=
  (.seq (.reg [
  .o 2 (.a (.mov (.c (.int .u32 0))))])
  (.seq (.reg [
  .o 3 (.a (.mov (.c (.int .u64 0))))])
  (.seq (.seq (.reg [
  .o 4 (.a (.mov (.c (.int .i64 0))))])
  (.block 0 (.loop totBody)))
  (.seq (.block 2 (.loop foldBody))
  (.seq (.reg [
  .o 47 (.a (.mov (.t 3))),
  .o 48 (.a (.convI .u32 (.t 47))),
  .o 2 (.a (.mov (.t 48)))])
  .ret)))))
def fdTotal : FD := ⟨49, cTotal, [.t 2]⟩

/-- the word at a place -/
def wAt (s : ByteArray) (i : Int) : Int := bAt s i * 16777216 + bAt s (i + 1) * 65536 + bAt s (i + 2) * 256 + bAt s (i + 3)
/-- the sum of so many words from a place on -/
def wSum (s : ByteArray) : Nat → Int → Int
  | 0, _ => 0
  | m + 1, i => wAt s i + wSum s m (i + 4)
theorem wAt_nn (s : ByteArray) (i : Int) : 0 ≤ wAt s i ∧ wAt s i < 4294967296 := by
  have h0 := bAt_nn s i; have h1 := bAt_nn s (i + 1); have h2 := bAt_nn s (i + 2); have h3 := bAt_nn s (i + 3)
  have k0 := bAt_lt s i; have k1 := bAt_lt s (i + 1); have k2 := bAt_lt s (i + 2); have k3 := bAt_lt s (i + 3)
  unfold wAt; omega
theorem wSum_nn (s : ByteArray) : ∀ (m : Nat) (i : Int), 0 ≤ wSum s m i ∧ wSum s m i ≤ m * 4294967296 := by
  intro m
  induction m with
  | zero => intro i; simp [wSum]
  | succ m ih => intro i; have := ih (i + 4); have := wAt_nn s i; simp only [wSum]; omega
section
variable {N : Nat} {okf : Nat → Bool} {call : Call}
theorem tot_exit (s : ByteArray) (i : Int) (env : Env) (hs : s.size < 1000000000000) (hi : 0 ≤ i) (hi2 : i ≤ s.size) (hx : ¬ i + 3 < s.size) (hl : env.length = 49) (h0 : gt env 0 = .string s) (h4 : gt env 4 = .int .i64 i) :
    ∃ env', (∀ h d kn kx, evC N okf evD call totBody env h d kn kx = kx (.exit 0) env' h d) ∧ env'.length = 49 ∧ gt env' 0 = .string s ∧ gt env' 3 = gt env 3 := by
  refine ⟨?E, fun h d kn kx => ?A, ?B⟩
  case A =>
    unfold totBody totHead
    simp (disch := first | decide | omega | (simp only [len_set, hl] <;> omega)) only [evC_seq, evC_reg, evC_dreg, evC_cond, evC_block, evC_loop, evC_exit, evC_ret, evC_skip, kS_app, kB_exit, kB_ne, kB_ret, kL_app, kO_app, kN_app, kO2_app, kO3_app, kN3_app, kC_app, kG_app, kG3_app, kU_app, kD_app, kCall_app, evOps_oa, evOps_ob, evOps_oc, evOps_na, evOps_nc, evOps_ga, evOps_gc, evOps_nil, isB_tt, isB_tf, isB_ft, isB_ff, pick_t, pick_f, evD_l, evD_h, evD_nil, ev1_mov, ev1_pick, ev1_bin, ev1_lenS, ev1_lenL, ev1_idxStr, ev1_sliceStr, ev1_convI, ev1_eqt, ev1_eqf, ev1_un, ev1_extract, evo_none, evo_some, evt, evc, evg, evf, evs0, evs1, ev3_call, b_add, b_sub, b_mul, b_lss, b_leq, b_gtr, b_geq, lenS_eq, lenL_eq, s_idx, convI_eq, s_shl64, s_shr64, n_int, e_int, wrap_i64, wrap_u64, not_t, not_f, dec_t, dec_f, cond_t, cond_f, gt_set_same, gt_set_ne, len_set, hl, h0, h4]
    rfl
  case B =>
    simp (disch := first | decide | omega | (simp only [len_set, hl] <;> omega)) only [gt_set_same, gt_set_ne, len_set, hl, h0, and_self]
theorem tot_step (s : ByteArray) (i sum : Int) (env : Env) (hs : s.size < 1000000000000) (hi : 0 ≤ i) (hx : i + 3 < s.size) (hs0 : 0 ≤ sum) (hs1 : sum + 4294967296 < 18446744073709551616) (hl : env.length = 49) (h0 : gt env 0 = .string s) (h3 : gt env 3 = .int .u64 sum) (h4 : gt env 4 = .int .i64 i) :
    ∃ env', (∀ h d kn kx, evC N okf evD call totBody env h d kn kx = kn env' h d) ∧ env'.length = 49 ∧ gt env' 0 = .string s ∧ gt env' 3 = .int .u64 (sum + wAt s i) ∧ gt env' 4 = .int .i64 (i + 4) := by
  have a0 := bAt_nn s i; have a1 := bAt_nn s (i + 1); have a2 := bAt_nn s (i + 2); have a3 := bAt_nn s (i + 3)
  have k0 := bAt_lt s i; have k1 := bAt_lt s (i + 1); have k2 := bAt_lt s (i + 2); have k3 := bAt_lt s (i + 3)
  have e24 : (2 : Int) ^ (24 : Int).toNat = 16777216 := by decide
  have e16 : (2 : Int) ^ (16 : Int).toNat = 65536 := by decide
  have e8 : (2 : Int) ^ (8 : Int).toNat = 256 := by decide
  refine ⟨?E, fun h d kn kx => ?A, ?B⟩
  case A =>
    unfold totBody totHead totStep totNext
    simp (disch := first | decide | omega | (simp only [len_set, hl] <;> omega)) only [evC_seq, evC_reg, evC_dreg, evC_cond, evC_block, evC_loop, evC_exit, evC_ret, evC_skip, kS_app, kB_exit, kB_ne, kB_ret, kL_app, kO_app, kN_app, kO2_app, kO3_app, kN3_app, kC_app, kG_app, kG3_app, kU_app, kD_app, kCall_app, evOps_oa, evOps_ob, evOps_oc, evOps_na, evOps_nc, evOps_ga, evOps_gc, evOps_nil, isB_tt, isB_tf, isB_ft, isB_ff, pick_t, pick_f, evD_l, evD_h, evD_nil, ev1_mov, ev1_pick, ev1_bin, ev1_lenS, ev1_lenL, ev1_idxStr, ev1_sliceStr, ev1_convI, ev1_eqt, ev1_eqf, ev1_un, ev1_extract, evo_none, evo_some, evt, evc, evg, evf, evs0, evs1, ev3_call, b_add, b_sub, b_mul, b_lss, b_leq, b_gtr, b_geq, lenS_eq, lenL_eq, s_idx, convI_eq, s_shl64, s_shr64, n_int, e_int, wrap_i64, wrap_u64, not_t, not_f, dec_t, dec_f, cond_t, cond_f, gt_set_same, gt_set_ne, len_set, hl, e24, e16, e8, or_24, or_16, or_8, h0, h3, h4]
    rfl
  case B =>
    simp (disch := first | decide | omega | (simp only [len_set, hl] <;> omega)) only [gt_set_same, gt_set_ne, len_set, hl, h0, true_and]
    unfold wAt
    exact ⟨rfl, trivial⟩
theorem tot_loop (s : ByteArray) (hs : s.size < 1000000000) : ∀ (m n : Nat) (i sum : Int) (env : Env), m < n → 0 ≤ i → i + 4 * m ≤ s.size → ¬ i + 4 * m + 3 < s.size → 0 ≤ sum → sum + 4294967296 * m < 18446744073709551616 → env.length = 49 → gt env 0 = .string s → gt env 3 = .int .u64 sum → gt env 4 = .int .i64 i →
    ∃ env', (∀ h d kx, loopD (evC N okf evD call totBody) kx n env h d = kx (.exit 0) env' h d) ∧ env'.length = 49 ∧ gt env' 0 = .string s ∧ gt env' 3 = .int .u64 (sum + wSum s m i) := by
  intro m
  induction m with
  | zero =>
    intro n i sum env hn hi hi2 hx hs0 hs1 hl h0 h3 h4
    obtain ⟨n, rfl⟩ : ∃ k, n = k + 1 := ⟨n - 1, by omega⟩
    obtain ⟨env', e1, e2, e3, e4⟩ := tot_exit (N := N) (okf := okf) (call := call) s i env (by omega) hi (by omega) (by omega) hl h0 h4
    refine ⟨env', fun h d kx => ?_, e2, e3, ?_⟩
    · rw [loopD_succ, e1]
    · rw [e4, h3]; simp [wSum]
  | succ m ih =>
    intro n i sum env hn hi hi2 hx hs0 hs1 hl h0 h3 h4
    obtain ⟨n, rfl⟩ : ∃ k, n = k + 1 := ⟨n - 1, by omega⟩
    obtain ⟨env', e1, e2, e3, e4, e5⟩ := tot_step (N := N) (okf := okf) (call := call) s i sum env (by omega) hi (by omega) hs0 (by omega) hl h0 h3 h4
    have hw := wAt_nn s i
    obtain ⟨env'', f1, f2, f3, f4⟩ := ih n (i + 4) (sum + wAt s i) env' (by omega) (by omega) (by omega) (by omega) (by omega) (by omega) e2 e3 e4 e5
    refine ⟨env'', fun h d kx => ?_, f2, f3, ?_⟩
    · rw [loopD_succ, e1, kL_app, f1]
    · rw [f4]; simp only [wSum, Int.add_assoc]
/-- a sum with its carries added -/
def foldF (t : Int) : Int := if t = 0 then 0 else (t - 1) % 4294967295 + 1
theorem foldF_step (t : Int) (h0 : 0 ≤ t) : foldF (t / 4294967296 + t % 4294967296) = foldF t := by
  unfold foldF
  by_cases h : t = 0
  · subst h; rfl
  · rw [if_neg h, if_neg (by omega)]; omega
theorem foldF_low (t : Int) (h0 : 0 ≤ t) (h1 : t < 4294967296) : foldF t = t := by
  unfold foldF
  split <;> omega
theorem foldF_nn (t : Int) : 0 ≤ foldF t ∧ foldF t < 4294967296 := by
  unfold foldF
  split <;> omega
theorem fold_exit (t : Int) (env : Env) (h0 : 0 ≤ t) (ht : t < 4294967296) (hl : env.length = 49) (h3 : gt env 3 = .int .u64 t) :
    ∃ env', (∀ h d kn kx, evC N okf evD call foldBody env h d kn kx = kx (.exit 2) env' h d) ∧ env'.length = 49 ∧ gt env' 3 = .int .u64 t := by
  have e32 : (2 : Int) ^ (32 : Int).toNat = 4294967296 := by decide
  refine ⟨?E, fun h d kn kx => ?A, ?B⟩
  case A =>
    unfold foldBody
    simp (disch := first | decide | omega | (simp only [len_set, hl] <;> omega)) only [evC_seq, evC_reg, evC_dreg, evC_cond, evC_block, evC_loop, evC_exit, evC_ret, evC_skip, kS_app, kB_exit, kB_ne, kB_ret, kL_app, kO_app, kN_app, kO2_app, kO3_app, kN3_app, kC_app, kG_app, kG3_app, kU_app, kD_app, kCall_app, evOps_oa, evOps_ob, evOps_oc, evOps_na, evOps_nc, evOps_ga, evOps_gc, evOps_nil, isB_tt, isB_tf, isB_ft, isB_ff, pick_t, pick_f, evD_l, evD_h, evD_nil, ev1_mov, ev1_pick, ev1_bin, ev1_lenS, ev1_lenL, ev1_idxStr, ev1_sliceStr, ev1_convI, ev1_eqt, ev1_eqf, ev1_un, ev1_extract, evo_none, evo_some, evt, evc, evg, evf, evs0, evs1, ev3_call, b_add, b_sub, b_mul, b_lss, b_leq, b_gtr, b_geq, lenS_eq, lenL_eq, s_idx, convI_eq, s_shl64, s_shr64, n_int, e_int, wrap_i64, wrap_u64, not_t, not_f, dec_t, dec_f, cond_t, cond_f, gt_set_same, gt_set_ne, len_set, hl, e32, h3]
    rfl
  case B =>
    simp (disch := first | decide | omega | (simp only [len_set, hl] <;> omega)) only [gt_set_same, gt_set_ne, len_set, hl, h3, and_self]
theorem fold_step (t : Int) (env : Env) (ht : 4294967296 ≤ t) (ht2 : t < 18446744073709551616) (hl : env.length = 49) (h3 : gt env 3 = .int .u64 t) :
    ∃ env', (∀ h d kn kx, evC N okf evD call foldBody env h d kn kx = kn env' h d) ∧ env'.length = 49 ∧ gt env' 3 = .int .u64 (t / 4294967296 + t % 4294967296) := by
  have e32 : (2 : Int) ^ (32 : Int).toNat = 4294967296 := by decide
  refine ⟨?E, fun h d kn kx => ?A, ?B⟩
  case A =>
    unfold foldBody
    simp (disch := first | decide | omega | (simp only [len_set, hl] <;> omega)) only [evC_seq, evC_reg, evC_dreg, evC_cond, evC_block, evC_loop, evC_exit, evC_ret, evC_skip, kS_app, kB_exit, kB_ne, kB_ret, kL_app, kO_app, kN_app, kO2_app, kO3_app, kN3_app, kC_app, kG_app, kG3_app, kU_app, kD_app, kCall_app, evOps_oa, evOps_ob, evOps_oc, evOps_na, evOps_nc, evOps_ga, evOps_gc, evOps_nil, isB_tt, isB_tf, isB_ft, isB_ff, pick_t, pick_f, evD_l, evD_h, evD_nil, ev1_mov, ev1_pick, ev1_bin, ev1_lenS, ev1_lenL, ev1_idxStr, ev1_sliceStr, ev1_convI, ev1_eqt, ev1_eqf, ev1_un, ev1_extract, evo_none, evo_some, evt, evc, evg, evf, evs0, evs1, ev3_call, b_add, b_sub, b_mul, b_lss, b_leq, b_gtr, b_geq, lenS_eq, lenL_eq, s_idx, convI_eq, s_shl64, s_shr64, n_int, e_int, wrap_i64, wrap_u64, not_t, not_f, dec_t, dec_f, cond_t, cond_f, gt_set_same, gt_set_ne, len_set, hl, e32, and_32, h3]
    rfl
  case B =>
    simp (disch := first | decide | omega | (simp only [len_set, hl] <;> omega)) only [gt_set_same, gt_set_ne, len_set, hl, h3, and_self]
def foldB : Nat → Int
  | 0 => 4294967296 | 1 => 4294967297 | 2 => 8589934592 | _ => 18446744073709551616
theorem fold_loop : ∀ (k n : Nat) (t : Int) (env : Env), k ≤ 3 → k < n → 0 ≤ t → t < foldB k → env.length = 49 → gt env 3 = .int .u64 t →
    ∃ env', (∀ h d kx, loopD (evC N okf evD call foldBody) kx n env h d = kx (.exit 2) env' h d) ∧ env'.length = 49 ∧ gt env' 3 = .int .u64 (foldF t) := by
  intro k
  induction k with
  | zero =>
    intro n t env hk hn h0 ht hl h3
    obtain ⟨n, rfl⟩ : ∃ k, n = k + 1 := ⟨n - 1, by omega⟩
    obtain ⟨env', e1, e2, e3⟩ := fold_exit (N := N) (okf := okf) (call := call) t env h0 ht hl h3
    exact ⟨env', fun h d kx => by rw [loopD_succ, e1], e2, by rw [e3, foldF_low t h0 ht]⟩
  | succ k ih =>
    intro n t env hk hn h0 ht hl h3
    obtain ⟨n, rfl⟩ : ∃ k, n = k + 1 := ⟨n - 1, by omega⟩
    by_cases hlt : t < 4294967296
    · obtain ⟨env', e1, e2, e3⟩ := fold_exit (N := N) (okf := okf) (call := call) t env h0 hlt hl h3
      exact ⟨env', fun h d kx => by rw [loopD_succ, e1], e2, by rw [e3, foldF_low t h0 hlt]⟩
    · have hb : t < 18446744073709551616 ∧ t / 4294967296 + t % 4294967296 < foldB k := by
        match k, hk, ht with
        | 0, _, ht => have ht : t < 4294967297 := ht
                      exact ⟨by omega, by show _ < (4294967296 : Int); omega⟩
        | 1, _, ht => have ht : t < 8589934592 := ht
                      exact ⟨by omega, by show _ < (4294967297 : Int); omega⟩
        | 2, _, ht => have ht : t < 18446744073709551616 := ht
                      exact ⟨by omega, by show _ < (8589934592 : Int); omega⟩
        | k + 3, hk, _ => omega
      obtain ⟨env', e1, e2, e3⟩ := fold_step (N := N) (okf := okf) (call := call) t env (by omega) hb.1 hl h3
      obtain ⟨env'', f1, f2, f3⟩ := ih n _ env' (by omega) (by omega) (by omega) hb.2 e2 e3
      exact ⟨env'', fun h d kx => by rw [loopD_succ, e1, kL_app, f1], f2, by rw [f3, foldF_step t (by omega)]⟩
/-- the sum of a string's words, as the program finds it -/
def totF (s : ByteArray) : Int := foldF (wSum s (s.size / 4) 0)
theorem total_code (s : ByteArray) (env : Env) (hs : s.size < 1000000000) (hN : s.size / 4 < N) (hN2 : 3 < N) (hl : env.length = 49) (h0 : gt env 0 = .string s) :
    ∃ env', (∀ h d kn kx, evC N okf evD call cTotal env h d kn kx = kx .ret env' h d) ∧ gt env' 2 = .int .u32 (totF s) := by
  have hw := wSum_nn s (s.size / 4) 0
  obtain ⟨env1, e1, e2, e3, e4⟩ := tot_loop (N := N) (okf := okf) (call := call) s hs (s.size / 4) N 0 0 (((env.set 2 (.int .u32 0)).set 3 (.int .u64 0)).set 4 (.int .i64 0)) hN (by omega) (by omega) (by omega) (by omega) (by omega)
    (by simp (disch := first | decide | omega | (simp only [len_set, hl] <;> omega)) only [gt_set_same, gt_set_ne, len_set, hl]) (by simp (disch := first | decide | omega | (simp only [len_set, hl] <;> omega)) only [gt_set_same, gt_set_ne, len_set, hl, h0]) (by simp (disch := first | decide | omega | (simp only [len_set, hl] <;> omega)) only [gt_set_same, gt_set_ne, len_set, hl]) (by simp (disch := first | decide | omega | (simp only [len_set, hl] <;> omega)) only [gt_set_same, gt_set_ne, len_set, hl])
  rw [Int.zero_add] at e4
  obtain ⟨env2, f1, f2, f3⟩ := fold_loop (N := N) (okf := okf) (call := call) 3 N _ env1 (by omega) hN2 hw.1 (by show _ < (18446744073709551616 : Int); omega) e2 e4
  have hf := foldF_nn (wSum s (s.size / 4) 0)
  have hl1 := e2
  have hl2 := f2
  refine ⟨?E, fun h d kn kx => ?A, ?B⟩
  case A =>
    unfold cTotal
    simp (disch := first | decide | omega | (simp only [len_set, hl] <;> omega)) only [evC_seq, evC_reg, evC_dreg, evC_cond, evC_block, evC_loop, evC_exit, evC_ret, evC_skip, kS_app, kB_exit, kB_ne, kB_ret, kL_app, kO_app, kN_app, kO2_app, kO3_app, kN3_app, kC_app, kG_app, kG3_app, kU_app, kD_app, kCall_app, evOps_oa, evOps_ob, evOps_oc, evOps_na, evOps_nc, evOps_ga, evOps_gc, evOps_nil, isB_tt, isB_tf, isB_ft, isB_ff, pick_t, pick_f, evD_l, evD_h, evD_nil, ev1_mov, ev1_pick, ev1_bin, ev1_lenS, ev1_lenL, ev1_idxStr, ev1_sliceStr, ev1_convI, ev1_eqt, ev1_eqf, ev1_un, ev1_extract, evo_none, evo_some, evt, evc, evg, evf, evs0, evs1, ev3_call, b_add, b_sub, b_mul, b_lss, b_leq, b_gtr, b_geq, lenS_eq, lenL_eq, s_idx, convI_eq, s_shl64, s_shr64, n_int, e_int, wrap_i64, wrap_u64, not_t, not_f, dec_t, dec_f, cond_t, cond_f, gt_set_same, gt_set_ne, len_set, hl, wrap_u32, e1, f1, f3, hl2]
    rfl
  case B =>
    clear hl
    have hl := f2
    simp (disch := first | decide | omega | (simp only [len_set, hl] <;> omega)) only [gt_set_same, gt_set_ne, len_set, hl, f3, totF]
end
end
end Go.Ev
