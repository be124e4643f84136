/- A string without some byte at its end, as the library finds it. No condition. -/
import Derived.Test.YtmihmfnheeciaaaGreatDoorEvF
set_option linter.unusedVariables false
set_option linter.unusedSimpArgs false
namespace Go.Ev
open Go
noncomputable section
def trimBody : C := (.seq (.seq (.reg [
    .o 5 (.a (.mov (.t 0))),
    .o 6 (.a (.lenS (.t 5))),
    .o 7 (.a (.bin .gtr (.t 6) (.c (.int .i64 0)))),
    .o 8 (.a (.mov (.t 7))),
    .g 8 true 9 (.a (.mov (.t 0))),
    .g 8 true 10 (.a (.mov (.t 0))),
    .g 8 true 11 (.a (.lenS (.t 10))),
    .g 8 true 12 (.a (.bin .sub (.t 11) (.c (.int .i64 1)))),
    .g 8 true 13 (.a (.idxStr (.t 9) (.t 12))),
    .g 8 true 14 (.a (.mov (.t 1))),
    .g 8 true 15 (.a (.eq .num false (.t 13) (.t 14))),
    .o 16 (.a (.pick (.t 8) (.t 15) (.c (.bool false))))])
    (.cond (.t 16)
      .skip
      (.exit 0)))
    (.block 1
     (.reg [
     .o 17 (.a (.mov (.t 0))),
     .o 18 (.a (.mov (.t 0))),
     .o 19 (.a (.lenS (.t 18))),
     .o 20 (.a (.bin .sub (.t 19) (.c (.int .i64 1)))),
     .o 21 (.a (.sliceStr (.t 17) none (some (.t 20)))),
     .o 0 (.a (.mov (.t 21)))])))
def cTrim : C :=
  (.seq (.reg [
  .o 4 (.a (.mov (.c (.string ⟨⟨[]⟩⟩))))])
  (.seq (.block 0 (.loop trimBody))
  (.seq (.reg [
  .o 22 (.a (.mov (.t 0))),
  .o 4 (.a (.mov (.t 22)))])
  .ret)))
def fdTrim : FD := ⟨23, cTrim, [.t 4]⟩
/-- without a byte at the end -/
def trimR (c : Nat) (l : List UInt8) : List UInt8 := List.rec [] (fun x _ ih => match ih with
  | [] => (match Nat.beq x.toNat c with | true => [] | false => [x])
  | y :: r => x :: y :: r) l
theorem trimR_cons (c : Nat) (x : UInt8) (l : List UInt8) : trimR c (x :: l) = match trimR c l with
  | [] => (match Nat.beq x.toNat c with | true => [] | false => [x])
  | y :: r => x :: y :: r := rfl
theorem trimR_snoc (c : Nat) (x : UInt8) : ∀ l : List UInt8, trimR c (l ++ [x]) = if x.toNat = c then trimR c l else l ++ [x] := by
  intro l
  induction l with
  | nil =>
    show (match Nat.beq x.toNat c with | true => [] | false => [x]) = _
    cases h : Nat.beq x.toNat c with
    | true => rw [if_pos (beq_true.1 h)]; rfl
    | false => rw [if_neg (fun e => by rw [beq_true.2 e] at h; cases h)]; rfl
  | cons y l ih =>
    rw [List.cons_append, trimR_cons, ih]
    by_cases h : x.toNat = c
    · rw [if_pos h, if_pos h, trimR_cons]
    · rw [if_neg h, if_neg h]
      cases l <;> rfl
theorem bytes_ext (s : ByteArray) : s = ⟨s.data.toList.toArray⟩ := by cases s; simp
section
variable {N : Nat} {okf : Nat → Bool} {call : Call}
theorem trim_exit0 (s : ByteArray) (c : Int) (env : Env) (hs : s.size = 0) (hl : env.length = 23) (h0 : gt env 0 = .string s) (h1 : gt env 1 = .int .u8 c) :
    ∃ env', (∀ h d kn kx, evC N okf evD call trimBody env h d kn kx = kx (.exit 0) env' h d) ∧ env'.length = 23 ∧ gt env' 0 = .string s := by
  refine ⟨?E, fun h d kn kx => ?A, ?B⟩
  case A => unfold trimBody; simp -implicitDefEqProofs (disch := first | decide | omega | (simp only [len_set, hl] <;> omega)) only [evC_seq, evC_reg, evC_dreg, evC_cond, evC_block, evC_loop, evC_exit, evC_ret, evC_skip, kS_app, kB_exit, kB_ne, kB_ret, kL_app, kO_app, kN_app, kO2_app, kO3_app, kN3_app, kC_app, kG_app, kG3_app, kU_app, kD_app, kCall_app, evOps_oa, evOps_ob, evOps_oc, evOps_na, evOps_nc, evOps_ga, evOps_gc, evOps_nil, isB_tt, isB_tf, isB_ft, isB_ff, pick_t, pick_f, evD_l, evD_h, evD_nil, ev1_mov, ev1_pick, ev1_bin, ev1_lenS, ev1_lenL, ev1_idxStr, ev1_sliceStr, ev1_convI, ev1_eqt, ev1_eqf, ev1_un, ev1_extract, u_not, ex_0, ex_1, evo_none, evo_some, evt, evc, evg, evf, evs0, evs1, ev3_call, b_add, b_sub, b_mul, b_rem, b_adds, b_lss, b_leq, b_gtr, b_geq, lenS_eq, lenL_eq, sl_to, s_idx, convI_eq, s_shl64, s_shr64, n_int, e_int, wrap_i64, wrap_u64, not_t, not_f, dec_t, dec_f, cond_t, cond_f, gt_set_same, gt_set_ne, len_set, hl, h0, h1]; rfl
  case B => simp (disch := first | decide | omega | (simp only [len_set, hl] <;> omega)) only [gt_set_same, gt_set_ne, len_set, hl, h0, and_self]
theorem trim_exit (s : ByteArray) (c : Int) (env : Env) (hs : 0 < s.size) (hb : s.size < 1000000000) (hc : ¬ bAt s ((s.size : Int) - 1) = c) (hl : env.length = 23) (h0 : gt env 0 = .string s) (h1 : gt env 1 = .int .u8 c) :
    ∃ env', (∀ h d kn kx, evC N okf evD call trimBody env h d kn kx = kx (.exit 0) env' h d) ∧ env'.length = 23 ∧ gt env' 0 = .string s := by
  refine ⟨?E, fun h d kn kx => ?A, ?B⟩
  case A => unfold trimBody; simp -implicitDefEqProofs (disch := first | decide | omega | (simp only [len_set, hl] <;> omega)) only [evC_seq, evC_reg, evC_dreg, evC_cond, evC_block, evC_loop, evC_exit, evC_ret, evC_skip, kS_app, kB_exit, kB_ne, kB_ret, kL_app, kO_app, kN_app, kO2_app, kO3_app, kN3_app, kC_app, kG_app, kG3_app, kU_app, kD_app, kCall_app, evOps_oa, evOps_ob, evOps_oc, evOps_na, evOps_nc, evOps_ga, evOps_gc, evOps_nil, isB_tt, isB_tf, isB_ft, isB_ff, pick_t, pick_f, evD_l, evD_h, evD_nil, ev1_mov, ev1_pick, ev1_bin, ev1_lenS, ev1_lenL, ev1_idxStr, ev1_sliceStr, ev1_convI, ev1_eqt, ev1_eqf, ev1_un, ev1_extract, u_not, ex_0, ex_1, evo_none, evo_some, evt, evc, evg, evf, evs0, evs1, ev3_call, b_add, b_sub, b_mul, b_rem, b_adds, b_lss, b_leq, b_gtr, b_geq, lenS_eq, lenL_eq, sl_to, s_idx, convI_eq, s_shl64, s_shr64, n_int, e_int, wrap_i64, wrap_u64, not_t, not_f, dec_t, dec_f, cond_t, cond_f, gt_set_same, gt_set_ne, len_set, hl, h0, h1]; rfl
  case B => simp (disch := first | decide | omega | (simp only [len_set, hl] <;> omega)) only [gt_set_same, gt_set_ne, len_set, hl, h0, and_self]
theorem trim_step (s : ByteArray) (c : Int) (env : Env) (hs : 0 < s.size) (hb : s.size < 1000000000) (hc : bAt s ((s.size : Int) - 1) = c) (hl : env.length = 23) (h0 : gt env 0 = .string s) (h1 : gt env 1 = .int .u8 c) :
    ∃ env', (∀ h d kn kx, evC N okf evD call trimBody env h d kn kx = kn env' h d) ∧ env'.length = 23 ∧ gt env' 0 = .string (cutS s ((s.size : Int) - 1)) ∧ gt env' 1 = .int .u8 c := by
  refine ⟨?E, fun h d kn kx => ?A, ?B⟩
  case A => unfold trimBody; simp -implicitDefEqProofs (disch := first | decide | omega | (simp only [len_set, hl] <;> omega)) only [evC_seq, evC_reg, evC_dreg, evC_cond, evC_block, evC_loop, evC_exit, evC_ret, evC_skip, kS_app, kB_exit, kB_ne, kB_ret, kL_app, kO_app, kN_app, kO2_app, kO3_app, kN3_app, kC_app, kG_app, kG3_app, kU_app, kD_app, kCall_app, evOps_oa, evOps_ob, evOps_oc, evOps_na, evOps_nc, evOps_ga, evOps_gc, evOps_nil, isB_tt, isB_tf, isB_ft, isB_ff, pick_t, pick_f, evD_l, evD_h, evD_nil, ev1_mov, ev1_pick, ev1_bin, ev1_lenS, ev1_lenL, ev1_idxStr, ev1_sliceStr, ev1_convI, ev1_eqt, ev1_eqf, ev1_un, ev1_extract, u_not, ex_0, ex_1, evo_none, evo_some, evt, evc, evg, evf, evs0, evs1, ev3_call, b_add, b_sub, b_mul, b_rem, b_adds, b_lss, b_leq, b_gtr, b_geq, lenS_eq, lenL_eq, sl_to, s_idx, convI_eq, s_shl64, s_shr64, n_int, e_int, wrap_i64, wrap_u64, not_t, not_f, dec_t, dec_f, cond_t, cond_f, gt_set_same, gt_set_ne, len_set, hl, h0, h1]; rfl
  case B => simp (disch := first | decide | omega | (simp only [len_set, hl] <;> omega)) only [gt_set_same, gt_set_ne, len_set, hl, h0, h1, and_self]
theorem trim_loop (c : Nat) : ∀ (m n : Nat) (s : ByteArray) (env : Env), s.size = m → m < n → m < 1000000000 → env.length = 23 → gt env 0 = .string s → gt env 1 = .int .u8 (c : Int) →
    ∃ env', (∀ h d kx, loopD (evC N okf evD call trimBody) kx n env h d = kx (.exit 0) env' h d) ∧ env'.length = 23 ∧ gt env' 0 = .string ⟨(trimR c s.data.toList).toArray⟩ := by
  intro m
  induction m with
  | zero =>
    intro n s env hs hn hb hl h0 h1
    obtain ⟨n, rfl⟩ : ∃ k, n = k + 1 := ⟨n - 1, by omega⟩
    obtain ⟨env', e1, e2, e3⟩ := trim_exit0 (N := N) (okf := okf) (call := call) s c env hs hl h0 h1
    refine ⟨env', fun h d kx => by rw [loopD_succ, e1], e2, ?_⟩
    have hnil : s.data.toList = [] := List.length_eq_zero_iff.1 hs
    rw [e3, hnil, bytes_ext s, hnil]; rfl
  | succ m ih =>
    intro n s env hs hn hb hl h0 h1
    obtain ⟨n, rfl⟩ : ∃ k, n = k + 1 := ⟨n - 1, by omega⟩
    have hll : s.data.toList.length = s.size := rfl
    have hsp : s.data.toList = s.data.toList.take m ++ [s.data.toList.getD m 0] := by
      conv => lhs; rw [← List.take_append_drop m s.data.toList]
      congr 1
      rw [List.drop_eq_getElem_cons (by omega), List.drop_of_length_le (by omega), List.getD_eq_getElem?_getD, List.getElem?_eq_getElem (by omega)]; rfl
    have hx : bAt s ((s.size : Int) - 1) = ((s.data.toList.getD m 0).toNat : Int) := by
      unfold bAt
      have : ((s.size : Int) - 1).toNat = m := by omega
      rw [this]
    by_cases hc : (s.data.toList.getD m 0).toNat = c
    · obtain ⟨env', e1, e2, e3, e4⟩ := trim_step (N := N) (okf := okf) (call := call) s c env (by omega) (by omega) (by rw [hx, hc]) hl h0 h1
      obtain ⟨env'', f1, f2, f3⟩ := ih n (cutS s ((s.size : Int) - 1)) env' (by rw [cutS_size s _ (by omega) (by omega)]; omega) (by omega) (by omega) e2 e3 e4
      refine ⟨env'', fun h d kx => by rw [loopD_succ, e1, kL_app, f1], f2, ?_⟩
      have : ((s.size : Int) - 1).toNat = m := by omega
      rw [f3, cutS_list, this]
      conv => rhs; rw [hsp, trimR_snoc, if_pos hc]
    · obtain ⟨env', e1, e2, e3⟩ := trim_exit (N := N) (okf := okf) (call := call) s c env (by omega) (by omega) (by rw [hx]; omega) hl h0 h1
      refine ⟨env', fun h d kx => by rw [loopD_succ, e1], e2, ?_⟩
      have : trimR c s.data.toList = s.data.toList := by
        conv => lhs; rw [hsp, trimR_snoc, if_neg hc]
        exact hsp.symm
      rw [e3, this, ← bytes_ext s]
theorem trim_code (s : ByteArray) (c : Nat) (env : Env) (hs : s.size < 19000) (hN : s.size < N) (hl : env.length = 23) (h0 : gt env 0 = .string s) (h1 : gt env 1 = .int .u8 (c : Int)) :
    ∃ env', (∀ h d kn kx, evC N okf evD call cTrim env h d kn kx = kx .ret env' h d) ∧ gt env' 4 = .string ⟨(trimR c s.data.toList).toArray⟩ := by
  obtain ⟨env1, e1, e2, e3⟩ := trim_loop (N := N) (okf := okf) (call := call) c s.size N s (env.set 4 (.string ⟨⟨[]⟩⟩)) rfl hN (by omega) (by simp (disch := first | decide | omega | (simp only [len_set, hl] <;> omega)) only [gt_set_same, gt_set_ne, len_set, hl]) (by simp (disch := first | decide | omega | (simp only [len_set, hl] <;> omega)) only [gt_set_same, gt_set_ne, len_set, hl, h0]) (by simp (disch := first | decide | omega | (simp only [len_set, hl] <;> omega)) only [gt_set_same, gt_set_ne, len_set, hl, h1])
  have hl2 := e2
  refine ⟨?E, fun h d kn kx => ?A, ?B⟩
  case A => unfold cTrim; simp -implicitDefEqProofs (disch := first | decide | omega | (simp only [len_set, hl] <;> omega)) only [evC_seq, evC_reg, evC_dreg, evC_cond, evC_block, evC_loop, evC_exit, evC_ret, evC_skip, kS_app, kB_exit, kB_ne, kB_ret, kL_app, kO_app, kN_app, kO2_app, kO3_app, kN3_app, kC_app, kG_app, kG3_app, kU_app, kD_app, kCall_app, evOps_oa, evOps_ob, evOps_oc, evOps_na, evOps_nc, evOps_ga, evOps_gc, evOps_nil, isB_tt, isB_tf, isB_ft, isB_ff, pick_t, pick_f, evD_l, evD_h, evD_nil, ev1_mov, ev1_pick, ev1_bin, ev1_lenS, ev1_lenL, ev1_idxStr, ev1_sliceStr, ev1_convI, ev1_eqt, ev1_eqf, ev1_un, ev1_extract, u_not, ex_0, ex_1, evo_none, evo_some, evt, evc, evg, evf, evs0, evs1, ev3_call, b_add, b_sub, b_mul, b_rem, b_adds, b_lss, b_leq, b_gtr, b_geq, lenS_eq, lenL_eq, sl_to, s_idx, convI_eq, s_shl64, s_shr64, n_int, e_int, wrap_i64, wrap_u64, not_t, not_f, dec_t, dec_f, cond_t, cond_f, gt_set_same, gt_set_ne, len_set, hl, e1, e3, hl2]; rfl
  case B =>
    clear hl
    have hl := e2
    simp (disch := first | decide | omega | (simp only [len_set, hl] <;> omega)) only [gt_set_same, gt_set_ne, len_set, hl, e3]
end
theorem trim_call {P : Program} (T : Told P) {f : Nat} (ht : T.tab f = some fdTrim) (s : ByteArray) (c : Nat) (hs : s.size < 19000) (n : Nat) (h : H) (kR kP : KV) : T.call 20000 (n + 1) (.fn f) [.string s, .int .u8 (c : Int)] h kR kP = kR (.string ⟨(trimR c s.data.toList).toArray⟩) h := by
  rw [T.call_succ 20000 n f ht]
  obtain ⟨env', e1, e2⟩ := trim_code (N := 20000) (okf := T.okf) (call := T.call 20000 n) s c (Env.start [.string s, .int .u8 (c : Int)] (Nat.sub 23 2) undef) hs (by omega) (by rw [len_start]; rfl) (by rw [gt_start]; rfl) (by rw [gt_start]; rfl)
  unfold fdTrim
  rw [evFn_ret e1, e2]
def trimO : OC := fun args h kR => match args with
  | [.string s, .int .u8 (.ofNat c)] => (match Nat.blt s.size 19000 with
    | true => kR (.string ⟨(trimR c s.data.toList).toArray⟩) h
    | false => none)
  | _ => none
theorem trimO_ok {P : Program} (T : Told P) {f : Nat} (ht : T.tab f = some fdTrim) : ∀ args h (kR kP : KV) out, trimO args h kR = some out → ∃ N n, T.call N n (.fn f) args h kR kP = some out := by
  intro args h kR kP out hx
  unfold trimO at hx
  split at hx
  · rename_i s c
    split at hx
    · rename_i hs
      have hs := blt_iff.1 hs
      exact ⟨20000, 1, (trim_call T ht s c hs 0 h kR kP).trans hx⟩
    · cases hx
  · cases hx
end
end Go.Ev
