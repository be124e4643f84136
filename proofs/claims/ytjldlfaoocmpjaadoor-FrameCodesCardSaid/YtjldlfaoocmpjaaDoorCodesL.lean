/- FrameCodes, run with any number. No condition. -/
import Derived.Test.YtjldlfaoocmpjaaDoorCode3
import Derived.Test.YtjldlfaoocmpjaaDoorTotL
set_option linter.unusedVariables false
set_option linter.unusedSimpArgs false
namespace Go.Ev
open Go
noncomputable section
def chkBody : C := (.seq (.seq (.reg [
    .o 23 (.a (.mov (.t 6))),
    .o 24 (.a (.bin .lss (.t 23) (.c (.int .i64 16))))])
    (.cond (.t 24)
      .skip
      (.exit 0)))
    (.seq (.block 1
     (.seq (.reg [
     .o 27 (.a (.mov (.t 4))),
     .o 28 (.a (.mov (.t 6))),
     .o 29 (.a (.idxStr (.t 27) (.t 28))),
     .o 7 (.a (.mov (.t 29)))])
     (.seq (.seq (.reg [
     .o 30 (.a (.mov (.t 7))),
     .o 31 (.a (.bin .geq (.t 30) (.c (.int .u8 48)))),
     .o 32 (.a (.mov (.t 31))),
     .g 32 true 33 (.a (.mov (.t 7))),
     .g 32 true 34 (.a (.bin .leq (.t 33) (.c (.int .u8 57)))),
     .o 35 (.a (.pick (.t 32) (.t 34) (.c (.bool false)))),
     .o 36 (.a (.mov (.t 35))),
     .g 36 false 37 (.a (.mov (.t 7))),
     .g 36 false 38 (.a (.bin .geq (.t 37) (.c (.int .u8 65)))),
     .g 36 false 39 (.a (.mov (.t 38))),
     .g 39 true 40 (.a (.mov (.t 7))),
     .g 39 true 41 (.a (.bin .leq (.t 40) (.c (.int .u8 90)))),
     .g 36 false 42 (.a (.pick (.t 39) (.t 41) (.c (.bool false)))),
     .o 43 (.a (.pick (.t 36) (.c (.bool true)) (.t 42))),
     .o 44 (.a (.mov (.t 43))),
     .g 44 false 45 (.a (.mov (.t 7))),
     .g 44 false 46 (.a (.bin .geq (.t 45) (.c (.int .u8 97)))),
     .g 44 false 47 (.a (.mov (.t 46))),
     .g 47 true 48 (.a (.mov (.t 7))),
     .g 47 true 49 (.a (.bin .leq (.t 48) (.c (.int .u8 122)))),
     .g 44 false 50 (.a (.pick (.t 47) (.t 49) (.c (.bool false)))),
     .o 51 (.a (.pick (.t 44) (.c (.bool true)) (.t 50))),
     .o 52 (.a (.un .not (.t 51)))])
     (.cond (.t 52)
       (.seq (.reg [
       .o 2 (.a (.mov (.c (.bool false))))])
       .ret)
       .skip))
     (.reg [
     .o 53 (.a (.mov (.t 5))),
     .o 54 (.a (.mov (.t 7))),
     .o 55 (.a (.bin .sub (.t 54) (.c (.int .u8 48)))),
     .o 56 (.a (.convI .u64 (.t 55))),
     .o 57 (.a (.mov (.t 6))),
     .o 58 (.a (.bin .rem (.t 57) (.c (.int .i64 4)))),
     .o 59 (.a (.bin .mul (.c (.int .i64 8)) (.t 58))),
     .o 60 (.a (.bin .sub (.c (.int .i64 24)) (.t 59))),
     .o 61 (.a (.bin .shl (.t 56) (.t 60))),
     .o 62 (.a (.bin .add (.t 53) (.t 61))),
     .o 5 (.a (.mov (.t 62)))]))))
    (.reg [
    .o 25 (.a (.mov (.t 6))),
    .o 26 (.a (.bin .add (.t 25) (.c (.int .i64 1)))),
    .o 6 (.a (.mov (.t 26)))])))
def codesRest : C := (.seq (.reg [
  .o 63 (.a (.mov (.t 3))),
  .o 64 (.a (.mov (.t 63))),
  .g 64 true 65 (.a (.mov (.t 5))),
  .g 64 true 66 (.a (.mov (.t 0))),
  .g 64 true 67 (.a (.convI .u64 (.t 66))),
  .g 64 true 68 (.a (.eq .num false (.t 65) (.t 67))),
  .o 69 (.a (.pick (.t 64) (.t 68) (.c (.bool false)))),
  .o 2 (.a (.mov (.t 69)))])
  .ret)
def cCodes : C :=
  (.seq (.reg [
  .o 2 (.a (.mov (.c (.bool false))))])
  (.seq (.reg [
  .o 8 (.c (.call 5 [])),
  .o 3 (.a (.mov (.t 8)))])
  (.seq (.reg [
  .o 9 (.a (.mov (.t 0))),
  .o 10 (.c (.call 6 [(.t 9)])),
  .o 4 (.a (.mov (.t 10)))])
  (.seq (.seq (.reg [
  .o 11 (.a (.mov (.t 4))),
  .o 12 (.a (.lenS (.t 11))),
  .o 13 (.a (.eq .num true (.t 12) (.c (.int .i64 16)))),
  .o 14 (.a (.mov (.t 13))),
  .g 14 false 15 (.a (.mov (.t 3))),
  .g 14 false 16 (.a (.un .not (.t 15))),
  .o 17 (.a (.pick (.t 14) (.c (.bool true)) (.t 16)))])
  (.cond (.t 17)
    (.seq (.reg [
    .o 2 (.a (.mov (.c (.bool false))))])
    .ret)
    .skip))
  (.seq (.dreg [18, 19, 20, 21, 22, 4] [
  .l (.o 18 (.a (.mov (.t 4)))) [],
  .l (.o 19 (.a (.sliceStr (.t 18) (some (.c (.int .i64 1))) none))) [],
  .l (.o 20 (.a (.mov (.t 4)))) [],
  .l (.o 21 (.a (.sliceStr (.t 20) none (some (.c (.int .i64 1)))))) [],
  .l (.o 22 (.a (.bin .add (.t 19) (.t 21)))) [],
  .h (.o 4 (.a (.mov (.t 22)))) [] []])
  (.seq (.reg [
  .o 5 (.a (.mov (.c (.int .u64 0))))])
  (.seq (.seq (.reg [
  .o 6 (.a (.mov (.c (.int .i64 0))))])
  (.block 0
   (.loop chkBody)))
  codesRest)))))))

def fdCodes : FD := ⟨70, cCodes, [.t 2]⟩
/-- all but the first bytes -/
def dropS (s : ByteArray) (x : Int) : ByteArray := ⟨((s.data.toList.drop x.toNat).take (Nat.sub s.size x.toNat)).toArray⟩
theorem sl_from (s : ByteArray) (k : IntKind) (x : Int) (f : Value → R) (h0 : 0 ≤ x) (h1 : x ≤ (s.size : Int)) : sliceStr (.string s) (some (.int k x)) none f = f (.string (dropS s x)) := by
  obtain ⟨n, rfl⟩ := Int.eq_ofNat_of_zero_le h0
  have e1 : Nat.ble s.size s.size = true := ble_iff.2 (Nat.le_refl _)
  have e2 : Nat.ble n s.size = true := ble_iff.2 (by omega)
  have : sliceStr (.string s) (some (.int k (.ofNat n))) none f = f (.string (dropS s (.ofNat n))) := by
    simp only [sliceStr, bnds, bnd, e2]
    rfl
  exact this
def rotS (v : Nat) : ByteArray := dropS (codeS v) 1 ++ cutS (codeS v) 1
def rotB (v : Nat) : List UInt8 := [UInt8.ofNat (chX (bt v 0) 0), UInt8.ofNat (chX (bt v 1) 0), UInt8.ofNat (chX (bt v 2) 0), UInt8.ofNat (chX (bt v 3) 0), UInt8.ofNat (chY (bt v 0) 0), UInt8.ofNat (chY (bt v 1) 0), UInt8.ofNat (chY (bt v 2) 0), UInt8.ofNat (chY (bt v 3) 0), UInt8.ofNat (chX (bt v 0) 1), UInt8.ofNat (chX (bt v 1) 1), UInt8.ofNat (chX (bt v 2) 1), UInt8.ofNat (chX (bt v 3) 1), UInt8.ofNat (chY (bt v 0) 1), UInt8.ofNat (chY (bt v 1) 1), UInt8.ofNat (chY (bt v 2) 1), UInt8.ofNat (chY (bt v 3) 1)]
theorem codeS_size (v : Nat) : (codeS v).size = 16 := rfl
theorem rotS_list (v : Nat) : (rotS v).data.toList = rotB v := by
  unfold rotS
  rw [app_list]
  rfl
theorem rotS_size (v : Nat) : (rotS v).size = 16 := by
  show (rotS v).data.toList.length = 16
  rw [rotS_list]; rfl
def anB (n : Nat) : Bool := decide (48 ≤ n ∧ n ≤ 57) || decide (65 ≤ n ∧ n ≤ 90) || decide (97 ≤ n ∧ n ≤ 122)
theorem chars_anB : ∀ b, b < 256 → ∀ k, k < 2 → (anB (chX b k) && anB (chY b k)) = true := by decide +kernel
def An (c : Int) : Prop := (48 ≤ c ∧ c ≤ 57) ∨ (65 ≤ c ∧ c ≤ 90) ∨ (97 ≤ c ∧ c ≤ 122)
theorem an_of {n : Nat} (h : anB n = true) : An (n : Int) := by
  unfold anB at h
  simp only [Bool.or_eq_true, decide_eq_true_eq] at h
  unfold An; omega
theorem chars_an (b : Nat) (hb : b < 256) (k : Nat) (hk : k < 2) : An ((chX b k : Nat) : Int) ∧ An ((chY b k : Nat) : Int) := by
  have := chars_anB b hb k hk
  rw [Bool.and_eq_true] at this
  exact ⟨an_of this.1, an_of this.2⟩
theorem chX_lt (b k : Nat) (hb : b < 256) (hk : k < 2) : chX b k < 256 := by
  have := (chars_an b hb k hk).1
  unfold An at this; omega
theorem chY_lt (b k : Nat) (hb : b < 256) (hk : k < 2) : chY b k < 256 := by
  have := (chars_an b hb k hk).2
  unfold An at this; omega
theorem rot_at (v q n : Nat) (h : (rotB v).getD q 0 = UInt8.ofNat n) (hn : n < 256) : bAt (rotS v) (q : Int) = (n : Int) := by
  show (((rotS v).data.toList.getD q 0).toNat : Int) = _
  rw [rotS_list, h]
  have : (UInt8.ofNat n).toNat = n := by simp [hn]
  rw [this]
theorem rot_0 (v : Nat) : bAt (rotS v) ((0 : Nat) : Int) = ((chX (bt v 0) 0 : Nat) : Int) := rot_at v 0 _ rfl (chX_lt _ _ (bt_lt v 0) (by omega))
theorem rot_1 (v : Nat) : bAt (rotS v) ((1 : Nat) : Int) = ((chX (bt v 1) 0 : Nat) : Int) := rot_at v 1 _ rfl (chX_lt _ _ (bt_lt v 1) (by omega))
theorem rot_2 (v : Nat) : bAt (rotS v) ((2 : Nat) : Int) = ((chX (bt v 2) 0 : Nat) : Int) := rot_at v 2 _ rfl (chX_lt _ _ (bt_lt v 2) (by omega))
theorem rot_3 (v : Nat) : bAt (rotS v) ((3 : Nat) : Int) = ((chX (bt v 3) 0 : Nat) : Int) := rot_at v 3 _ rfl (chX_lt _ _ (bt_lt v 3) (by omega))
theorem rot_4 (v : Nat) : bAt (rotS v) ((4 : Nat) : Int) = ((chY (bt v 0) 0 : Nat) : Int) := rot_at v 4 _ rfl (chY_lt _ _ (bt_lt v 0) (by omega))
theorem rot_5 (v : Nat) : bAt (rotS v) ((5 : Nat) : Int) = ((chY (bt v 1) 0 : Nat) : Int) := rot_at v 5 _ rfl (chY_lt _ _ (bt_lt v 1) (by omega))
theorem rot_6 (v : Nat) : bAt (rotS v) ((6 : Nat) : Int) = ((chY (bt v 2) 0 : Nat) : Int) := rot_at v 6 _ rfl (chY_lt _ _ (bt_lt v 2) (by omega))
theorem rot_7 (v : Nat) : bAt (rotS v) ((7 : Nat) : Int) = ((chY (bt v 3) 0 : Nat) : Int) := rot_at v 7 _ rfl (chY_lt _ _ (bt_lt v 3) (by omega))
theorem rot_8 (v : Nat) : bAt (rotS v) ((8 : Nat) : Int) = ((chX (bt v 0) 1 : Nat) : Int) := rot_at v 8 _ rfl (chX_lt _ _ (bt_lt v 0) (by omega))
theorem rot_9 (v : Nat) : bAt (rotS v) ((9 : Nat) : Int) = ((chX (bt v 1) 1 : Nat) : Int) := rot_at v 9 _ rfl (chX_lt _ _ (bt_lt v 1) (by omega))
theorem rot_10 (v : Nat) : bAt (rotS v) ((10 : Nat) : Int) = ((chX (bt v 2) 1 : Nat) : Int) := rot_at v 10 _ rfl (chX_lt _ _ (bt_lt v 2) (by omega))
theorem rot_11 (v : Nat) : bAt (rotS v) ((11 : Nat) : Int) = ((chX (bt v 3) 1 : Nat) : Int) := rot_at v 11 _ rfl (chX_lt _ _ (bt_lt v 3) (by omega))
theorem rot_12 (v : Nat) : bAt (rotS v) ((12 : Nat) : Int) = ((chY (bt v 0) 1 : Nat) : Int) := rot_at v 12 _ rfl (chY_lt _ _ (bt_lt v 0) (by omega))
theorem rot_13 (v : Nat) : bAt (rotS v) ((13 : Nat) : Int) = ((chY (bt v 1) 1 : Nat) : Int) := rot_at v 13 _ rfl (chY_lt _ _ (bt_lt v 1) (by omega))
theorem rot_14 (v : Nat) : bAt (rotS v) ((14 : Nat) : Int) = ((chY (bt v 2) 1 : Nat) : Int) := rot_at v 14 _ rfl (chY_lt _ _ (bt_lt v 2) (by omega))
theorem rot_15 (v : Nat) : bAt (rotS v) ((15 : Nat) : Int) = ((chY (bt v 3) 1 : Nat) : Int) := rot_at v 15 _ rfl (chY_lt _ _ (bt_lt v 3) (by omega))
theorem rot_an (v i : Nat) (hi : i < 16) : An (bAt (rotS v) (i : Int)) := by
  have : i = 0 ∨ i = 1 ∨ i = 2 ∨ i = 3 ∨ i = 4 ∨ i = 5 ∨ i = 6 ∨ i = 7 ∨ i = 8 ∨ i = 9 ∨ i = 10 ∨ i = 11 ∨ i = 12 ∨ i = 13 ∨ i = 14 ∨ i = 15 := by omega
  rcases this with rfl|rfl|rfl|rfl|rfl|rfl|rfl|rfl|rfl|rfl|rfl|rfl|rfl|rfl|rfl|rfl
  · rw [rot_0]; exact (chars_an _ (bt_lt v 0) 0 (by omega)).1
  · rw [rot_1]; exact (chars_an _ (bt_lt v 1) 0 (by omega)).1
  · rw [rot_2]; exact (chars_an _ (bt_lt v 2) 0 (by omega)).1
  · rw [rot_3]; exact (chars_an _ (bt_lt v 3) 0 (by omega)).1
  · rw [rot_4]; exact (chars_an _ (bt_lt v 0) 0 (by omega)).2
  · rw [rot_5]; exact (chars_an _ (bt_lt v 1) 0 (by omega)).2
  · rw [rot_6]; exact (chars_an _ (bt_lt v 2) 0 (by omega)).2
  · rw [rot_7]; exact (chars_an _ (bt_lt v 3) 0 (by omega)).2
  · rw [rot_8]; exact (chars_an _ (bt_lt v 0) 1 (by omega)).1
  · rw [rot_9]; exact (chars_an _ (bt_lt v 1) 1 (by omega)).1
  · rw [rot_10]; exact (chars_an _ (bt_lt v 2) 1 (by omega)).1
  · rw [rot_11]; exact (chars_an _ (bt_lt v 3) 1 (by omega)).1
  · rw [rot_12]; exact (chars_an _ (bt_lt v 0) 1 (by omega)).2
  · rw [rot_13]; exact (chars_an _ (bt_lt v 1) 1 (by omega)).2
  · rw [rot_14]; exact (chars_an _ (bt_lt v 2) 1 (by omega)).2
  · rw [rot_15]; exact (chars_an _ (bt_lt v 3) 1 (by omega)).2
def wt (i : Nat) : Int := ((2 ^ (24 - 8 * (i % 4)) : Nat) : Int)
theorem wt_le (i : Nat) : 1 ≤ wt i ∧ wt i ≤ 16777216 := by
  have : i % 4 = 0 ∨ i % 4 = 1 ∨ i % 4 = 2 ∨ i % 4 = 3 := by omega
  unfold wt
  rcases this with h | h | h | h <;> rw [h] <;> decide
def psum (s : ByteArray) : Nat → Int
  | 0 => 0
  | n + 1 => psum s n + (bAt s (n : Int) - 48) * wt n
theorem ch_sum (b : Nat) (hb : b < 256) (k : Nat) : chX b k + chY b k = x0 b k + y0 b := by
  unfold chX chY
  have h1 := jf_le 8 (x0 b k) (y0 b)
  have h2 : chJ b k ≤ 8 := h1
  have h3 : 48 ≤ y0 b := by unfold y0; omega
  omega
theorem psum_rot (v : Nat) (hv : v < 4294967296) : psum (rotS v) 16 = v := by
  have w0 : ∀ n, n % 4 = 0 → wt n = 16777216 := fun n h => by unfold wt; rw [h]; rfl
  have w1 : ∀ n, n % 4 = 1 → wt n = 65536 := fun n h => by unfold wt; rw [h]; rfl
  have w2 : ∀ n, n % 4 = 2 → wt n = 256 := fun n h => by unfold wt; rw [h]; rfl
  have w3 : ∀ n, n % 4 = 3 → wt n = 1 := fun n h => by unfold wt; rw [h]; rfl
  simp only [psum, rot_0, rot_1, rot_2, rot_3, rot_4, rot_5, rot_6, rot_7, rot_8, rot_9, rot_10, rot_11, rot_12, rot_13, rot_14, rot_15]
  rw [w0 0 rfl, w1 1 rfl, w2 2 rfl, w3 3 rfl, w0 4 rfl, w1 5 rfl, w2 6 rfl, w3 7 rfl, w0 8 rfl, w1 9 rfl, w2 10 rfl, w3 11 rfl, w0 12 rfl, w1 13 rfl, w2 14 rfl, w3 15 rfl]
  have s : ∀ i, i < 4 → ((chX (bt v i) 0 : Nat) : Int) + ((chY (bt v i) 0 : Nat) : Int) + ((chX (bt v i) 1 : Nat) : Int) + ((chY (bt v i) 1 : Nat) : Int) - 192 = ((bt v i : Nat) : Int) := fun i hi => by
    have a := ch_sum (bt v i) (bt_lt v i) 0
    have b := ch_sum (bt v i) (bt_lt v i) 1
    have c : x0 (bt v i) 0 = bt v i / 4 + 48 + bt v i % 4 := rfl
    have d : x0 (bt v i) 1 = bt v i / 4 + 48 := rfl
    have e : y0 (bt v i) = bt v i / 4 + 48 := rfl
    omega
  have s0 := s 0 (by omega); have s1 := s 1 (by omega); have s2 := s 2 (by omega); have s3 := s 3 (by omega)
  have t0 : bt v 0 = v / 16777216 % 256 := rfl
  have t1 : bt v 1 = v / 65536 % 256 := rfl
  have t2 : bt v 2 = v / 256 % 256 := rfl
  have t3 : bt v 3 = v / 1 % 256 := rfl
  omega
section
variable {N : Nat} {okf : Nat → Bool} {call : Call}
theorem chk_exit (s : ByteArray) (env : Env) (hl : env.length = 70) (h6 : gt env 6 = .int .i64 ((16 : Nat) : Int)) :
    ∃ env', (∀ h d kn kx, evC N okf evD call chkBody env h d kn kx = kx (.exit 0) env' h d) ∧ env'.length = 70 ∧ gt env' 0 = gt env 0 ∧ gt env' 3 = gt env 3 ∧ gt env' 5 = gt env 5 := by
  refine ⟨?E1, fun h d kn kx => ?A1, ?B1⟩
  case A1 => unfold chkBody; simp -implicitDefEqProofs (disch := first | decide | omega | (simp only [len_set, hl] <;> omega)) only [evC_seq, evC_reg, evC_dreg, evC_cond, evC_block, evC_loop, evC_exit, evC_ret, evC_skip, kS_app, kB_exit, kB_ne, kB_ret, kL_app, kO_app, kN_app, kO2_app, kO3_app, kN3_app, kC_app, kG_app, kG3_app, kU_app, kD_app, kCall_app, evOps_oa, evOps_ob, evOps_oc, evOps_na, evOps_nc, evOps_ga, evOps_gc, evOps_nil, isB_tt, isB_tf, isB_ft, isB_ff, isB_u, pick_t, pick_f, evD_l, evD_h, evD_nil, ev1_mov, ev1_pick, ev1_bin, ev1_lenS, ev1_lenL, ev1_load, ev1_idxA, ev1_idxAddrA, ev1_sliceArr, ev1_bytesStr, ev2_alloc, ev3_store, kSt_app, ev1_idxStr, ev1_sliceStr, ev1_convI, ev1_eqt, ev1_eqf, ev1_un, ev1_extract, u_not, ex_0, ex_1, evo_none, evo_some, evt, evc, evg, evf, evs0, evs1, ev3_call, b_add, b_sub, b_mul, b_rem, b_quo, b_adds, b_lss, b_leq, b_gtr, b_geq, lenS_eq, lenL_eq, sl_to, s_idx, convI_eq, s_shl64, s_shr64, n_int, e_int, wrap_i64, wrap_u64, wrap_u32, wrap_u8, not_t, not_f, dec_t, dec_f, cond_t, cond_f, gt_set_same, gt_set_ne, len_set, hl, h6]; rfl
  case B1 => simp (disch := first | decide | omega | (simp only [len_set, hl] <;> omega)) only [gt_set_same, gt_set_ne, len_set, hl, and_self]
theorem chk_step (s : ByteArray) (i : Nat) (sum : Int) (env : Env) (hs : s.size = 16) (hi : i < 16) (hc : An (bAt s (i : Int))) (h0 : 0 ≤ sum) (h1 : sum < 1000000000000) (hl : env.length = 70) (h4 : gt env 4 = .string s) (h5 : gt env 5 = .int .u64 sum) (h6 : gt env 6 = .int .i64 (i : Int)) :
    ∃ env', (∀ h d kn kx, evC N okf evD call chkBody env h d kn kx = kn env' h d) ∧ env'.length = 70 ∧ gt env' 0 = gt env 0 ∧ gt env' 3 = gt env 3 ∧ gt env' 4 = .string s ∧ gt env' 5 = .int .u64 (sum + (bAt s (i : Int) - 48) * wt i) ∧ gt env' 6 = .int .i64 ((i + 1 : Nat) : Int) := by
  have hm : (i : Int).tmod 4 = ((i % 4 : Nat) : Int) := rfl
  have hw : (2 : Int) ^ ((24 : Int) - 8 * ((i % 4 : Nat) : Int)).toNat = wt i := by
    have e : ((24 : Int) - 8 * ((i % 4 : Nat) : Int)).toNat = 24 - 8 * (i % 4) := by omega
    rw [e]; unfold wt; rw [Int.natCast_pow]; rfl
  have hwl := wt_le i
  have hmi : i % 4 < 4 := Nat.mod_lt _ (by omega)
  have hcc := hc
  unfold An at hcc
  have hp : 0 ≤ (bAt s (i : Int) - 48) * wt i ∧ (bAt s (i : Int) - 48) * wt i ≤ 100 * 16777216 := by
    refine ⟨Int.mul_nonneg (by omega) (by omega), ?_⟩
    exact Int.mul_le_mul (by omega) hwl.2 (by omega) (by omega)
  rcases hcc with q | q | q
  · refine ⟨?E1, fun h d kn kx => ?A1, ?B1⟩
    case A1 => unfold chkBody; simp -implicitDefEqProofs (disch := first | decide | omega | (simp only [len_set, hl] <;> omega)) only [evC_seq, evC_reg, evC_dreg, evC_cond, evC_block, evC_loop, evC_exit, evC_ret, evC_skip, kS_app, kB_exit, kB_ne, kB_ret, kL_app, kO_app, kN_app, kO2_app, kO3_app, kN3_app, kC_app, kG_app, kG3_app, kU_app, kD_app, kCall_app, evOps_oa, evOps_ob, evOps_oc, evOps_na, evOps_nc, evOps_ga, evOps_gc, evOps_nil, isB_tt, isB_tf, isB_ft, isB_ff, isB_u, pick_t, pick_f, evD_l, evD_h, evD_nil, ev1_mov, ev1_pick, ev1_bin, ev1_lenS, ev1_lenL, ev1_load, ev1_idxA, ev1_idxAddrA, ev1_sliceArr, ev1_bytesStr, ev2_alloc, ev3_store, kSt_app, ev1_idxStr, ev1_sliceStr, ev1_convI, ev1_eqt, ev1_eqf, ev1_un, ev1_extract, u_not, ex_0, ex_1, evo_none, evo_some, evt, evc, evg, evf, evs0, evs1, ev3_call, b_add, b_sub, b_mul, b_rem, b_quo, b_adds, b_lss, b_leq, b_gtr, b_geq, lenS_eq, lenL_eq, sl_to, s_idx, convI_eq, s_shl64, s_shr64, n_int, e_int, wrap_i64, wrap_u64, wrap_u32, wrap_u8, not_t, not_f, dec_t, dec_f, cond_t, cond_f, gt_set_same, gt_set_ne, len_set, hl, hm, hw, h4, h5, h6]; rfl
    case B1 =>
      simp (disch := first | decide | omega | (simp only [len_set, hl] <;> omega)) only [gt_set_same, gt_set_ne, len_set, hl, h4, h5, h6, true_and, and_true]
      exact rfl
  · refine ⟨?E2, fun h d kn kx => ?A2, ?B2⟩
    case A2 => unfold chkBody; simp -implicitDefEqProofs (disch := first | decide | omega | (simp only [len_set, hl] <;> omega)) only [evC_seq, evC_reg, evC_dreg, evC_cond, evC_block, evC_loop, evC_exit, evC_ret, evC_skip, kS_app, kB_exit, kB_ne, kB_ret, kL_app, kO_app, kN_app, kO2_app, kO3_app, kN3_app, kC_app, kG_app, kG3_app, kU_app, kD_app, kCall_app, evOps_oa, evOps_ob, evOps_oc, evOps_na, evOps_nc, evOps_ga, evOps_gc, evOps_nil, isB_tt, isB_tf, isB_ft, isB_ff, isB_u, pick_t, pick_f, evD_l, evD_h, evD_nil, ev1_mov, ev1_pick, ev1_bin, ev1_lenS, ev1_lenL, ev1_load, ev1_idxA, ev1_idxAddrA, ev1_sliceArr, ev1_bytesStr, ev2_alloc, ev3_store, kSt_app, ev1_idxStr, ev1_sliceStr, ev1_convI, ev1_eqt, ev1_eqf, ev1_un, ev1_extract, u_not, ex_0, ex_1, evo_none, evo_some, evt, evc, evg, evf, evs0, evs1, ev3_call, b_add, b_sub, b_mul, b_rem, b_quo, b_adds, b_lss, b_leq, b_gtr, b_geq, lenS_eq, lenL_eq, sl_to, s_idx, convI_eq, s_shl64, s_shr64, n_int, e_int, wrap_i64, wrap_u64, wrap_u32, wrap_u8, not_t, not_f, dec_t, dec_f, cond_t, cond_f, gt_set_same, gt_set_ne, len_set, hl, hm, hw, h4, h5, h6]; rfl
    case B2 =>
      simp (disch := first | decide | omega | (simp only [len_set, hl] <;> omega)) only [gt_set_same, gt_set_ne, len_set, hl, h4, h5, h6, true_and, and_true]
      exact rfl
  · refine ⟨?E3, fun h d kn kx => ?A3, ?B3⟩
    case A3 => unfold chkBody; simp -implicitDefEqProofs (disch := first | decide | omega | (simp only [len_set, hl] <;> omega)) only [evC_seq, evC_reg, evC_dreg, evC_cond, evC_block, evC_loop, evC_exit, evC_ret, evC_skip, kS_app, kB_exit, kB_ne, kB_ret, kL_app, kO_app, kN_app, kO2_app, kO3_app, kN3_app, kC_app, kG_app, kG3_app, kU_app, kD_app, kCall_app, evOps_oa, evOps_ob, evOps_oc, evOps_na, evOps_nc, evOps_ga, evOps_gc, evOps_nil, isB_tt, isB_tf, isB_ft, isB_ff, isB_u, pick_t, pick_f, evD_l, evD_h, evD_nil, ev1_mov, ev1_pick, ev1_bin, ev1_lenS, ev1_lenL, ev1_load, ev1_idxA, ev1_idxAddrA, ev1_sliceArr, ev1_bytesStr, ev2_alloc, ev3_store, kSt_app, ev1_idxStr, ev1_sliceStr, ev1_convI, ev1_eqt, ev1_eqf, ev1_un, ev1_extract, u_not, ex_0, ex_1, evo_none, evo_some, evt, evc, evg, evf, evs0, evs1, ev3_call, b_add, b_sub, b_mul, b_rem, b_quo, b_adds, b_lss, b_leq, b_gtr, b_geq, lenS_eq, lenL_eq, sl_to, s_idx, convI_eq, s_shl64, s_shr64, n_int, e_int, wrap_i64, wrap_u64, wrap_u32, wrap_u8, not_t, not_f, dec_t, dec_f, cond_t, cond_f, gt_set_same, gt_set_ne, len_set, hl, hm, hw, h4, h5, h6]; rfl
    case B3 =>
      simp (disch := first | decide | omega | (simp only [len_set, hl] <;> omega)) only [gt_set_same, gt_set_ne, len_set, hl, h4, h5, h6, true_and, and_true]
      exact rfl
theorem chk_loop (s : ByteArray) (hs : s.size = 16) (hc : ∀ i : Nat, i < 16 → An (bAt s (i : Int))) : ∀ (m i n : Nat) (env : Env), i + m = 16 → m < n → 0 ≤ psum s i → psum s i ≤ i * 1677721600 → env.length = 70 → gt env 4 = .string s → gt env 5 = .int .u64 (psum s i) → gt env 6 = .int .i64 (i : Int) →
    ∃ env', (∀ h d kx, loopD (evC N okf evD call chkBody) kx n env h d = kx (.exit 0) env' h d) ∧ env'.length = 70 ∧ gt env' 0 = gt env 0 ∧ gt env' 3 = gt env 3 ∧ gt env' 5 = .int .u64 (psum s 16) := by
  intro m
  induction m with
  | zero =>
    intro i n env hi hn p0 p1 hl h4 h5 h6
    obtain rfl : i = 16 := by omega
    obtain ⟨n, rfl⟩ : ∃ k, n = k + 1 := ⟨n - 1, by omega⟩
    obtain ⟨env', e1, e2, e3, e4, e5⟩ := chk_exit (N := N) (okf := okf) (call := call) s env hl h6
    exact ⟨env', fun h d kx => by rw [loopD_succ, e1], e2, e3, e4, by rw [e5, h5]⟩
  | succ m ih =>
    intro i n env hi hn p0 p1 hl h4 h5 h6
    obtain ⟨n, rfl⟩ : ∃ k, n = k + 1 := ⟨n - 1, by omega⟩
    obtain ⟨env', e1, e2, e3, e4, e5, e6, e7⟩ := chk_step (N := N) (okf := okf) (call := call) s i (psum s i) env hs (by omega) (hc i (by omega)) p0 (by omega) hl h4 h5 h6
    have hcc := hc i (by omega)
    unfold An at hcc
    have hwl := wt_le i
    have q0 : 0 ≤ (bAt s (i : Int) - 48) * wt i := Int.mul_nonneg (by omega) (by omega)
    have q1 : (bAt s (i : Int) - 48) * wt i ≤ 100 * 16777216 := Int.mul_le_mul (by omega) hwl.2 (by omega) (by omega)
    have q2 : psum s (i + 1) = psum s i + (bAt s (i : Int) - 48) * wt i := rfl
    obtain ⟨env'', f1, f2, f3, f4, f5⟩ := ih (i + 1) n env' (by omega) (by omega) (by rw [q2]; omega) (by rw [q2]; omega) e2 e5 e6 e7
    exact ⟨env'', fun h d kx => by rw [loopD_succ, e1, kL_app, f1], f2, by rw [f3, e3], by rw [f4, e4], f5⟩
theorem codes_code (hN : 20 < N) (g g' : H) (hal : ∀ (kR kP : KV), call (.fn 5) [] g kR kP = kR (.bool true) g) (v : Nat) (hv : v < 4294967296) (hcode : ∀ (kR kP : KV), call (.fn 6) [.int .u32 (v : Int)] g kR kP = kR (.string (codeS v)) g')
    (env : Env) (hl : env.length = 70) (h0 : gt env 0 = .int .u32 (v : Int)) :
    ∃ env', (∀ kn kx, evC N okf evD call cCodes env g [] kn kx = kx .ret env' g' []) ∧ gt env' 2 = .bool true := by
  have hsz := codeS_size v
  have h16 : ((codeS v).size : Int) = 16 := by rw [hsz]; rfl
  have hcut : ∀ f : Value → R, evBin .add (.string (dropS (codeS v) 1)) (.string (cutS (codeS v) 1)) f = f (.string (rotS v)) := fun f => by
    rw [b_adds]
    · rfl
    · have a : (dropS (codeS v) 1).size = 15 := rfl
      have b : (cutS (codeS v) 1).size = 1 := rfl
      omega
  have hps := psum_rot v hv
  have key : ∀ env : Env, env.length = 70 → gt env 4 = .string (rotS v) → gt env 5 = .int .u64 0 → gt env 6 = .int .i64 0 → ∃ env', (∀ h d kx, loopD (evC N okf evD call chkBody) kx N env h d = kx (.exit 0) env' h d) ∧ env'.length = 70 ∧ gt env' 0 = gt env 0 ∧ gt env' 3 = gt env 3 ∧ gt env' 5 = .int .u64 (v : Int) := fun env q1 q2 q3 q4 => by
    have := chk_loop (N := N) (okf := okf) (call := call) (rotS v) (rotS_size v) (rot_an v) 16 0 N env rfl (by omega) (Int.le_refl _) (Int.le_refl _) q1 q2 q3 q4
    rw [hps] at this
    exact this
  have hfront : ∃ env1, (∀ kn kx, evC N okf evD call cCodes env g [] kn kx = loopD (evC N okf evD call chkBody) (kB 0 (kS N okf evD call codesRest kn kx) kx) N env1 g' []) ∧ env1.length = 70 ∧ gt env1 4 = .string (rotS v) ∧ gt env1 5 = .int .u64 0 ∧ gt env1 6 = .int .i64 0 ∧ gt env1 0 = .int .u32 (v : Int) ∧ gt env1 3 = .bool true := by
    refine ⟨?E1, fun kn kx => ?A1, ?B1⟩
    case A1 =>
      unfold cCodes
      simp -implicitDefEqProofs (disch := first | decide | omega | (simp only [len_set, hl] <;> omega)) only [evC_seq, evC_reg, evC_dreg, evC_cond, evC_block, evC_loop, evC_exit, evC_ret, evC_skip, kS_app, kB_exit, kB_ne, kB_ret, kL_app, kO_app, kN_app, kO2_app, kO3_app, kN3_app, kC_app, kG_app, kG3_app, kU_app, kD_app, kCall_app, evOps_oa, evOps_ob, evOps_oc, evOps_na, evOps_nc, evOps_ga, evOps_gc, evOps_nil, isB_tt, isB_tf, isB_ft, isB_ff, isB_u, pick_t, pick_f, evD_l, evD_h, evD_nil, ev1_mov, ev1_pick, ev1_bin, ev1_lenS, ev1_lenL, ev1_load, ev1_idxA, ev1_idxAddrA, ev1_sliceArr, ev1_bytesStr, ev2_alloc, ev3_store, kSt_app, ev1_idxStr, ev1_sliceStr, ev1_convI, ev1_eqt, ev1_eqf, ev1_un, ev1_extract, u_not, ex_0, ex_1, evo_none, evo_some, evt, evc, evg, evf, evs0, evs1, ev3_call, b_add, b_sub, b_mul, b_rem, b_quo, b_adds, b_lss, b_leq, b_gtr, b_geq, lenS_eq, lenL_eq, sl_to, s_idx, convI_eq, s_shl64, s_shr64, n_int, e_int, wrap_i64, wrap_u64, wrap_u32, wrap_u8, not_t, not_f, dec_t, dec_f, cond_t, cond_f, gt_set_same, gt_set_ne, len_set, hl, hal, hcode, h16, sl_from, hcut, h0]
      rfl
    case B1 => simp (disch := first | decide | omega | (simp only [len_set, hl] <;> omega)) only [gt_set_same, gt_set_ne, len_set, hl, h0, and_self]
  obtain ⟨env1, a1, a2, a3, a4, a5, a6, a7⟩ := hfront
  obtain ⟨env2, k1, k2, k3, k4, k5⟩ := key env1 a2 a3 a4 a5
  rw [a7] at k4
  rw [a6] at k3
  have hl1 := k2
  refine ⟨?E2, fun kn kx => ?A2, ?B2⟩
  case A2 =>
    rw [a1, k1]
    unfold codesRest
    have hl := k2
    simp -implicitDefEqProofs (disch := first | decide | omega | (simp only [len_set, hl] <;> omega)) only [evC_seq, evC_reg, evC_dreg, evC_cond, evC_block, evC_loop, evC_exit, evC_ret, evC_skip, kS_app, kB_exit, kB_ne, kB_ret, kL_app, kO_app, kN_app, kO2_app, kO3_app, kN3_app, kC_app, kG_app, kG3_app, kU_app, kD_app, kCall_app, evOps_oa, evOps_ob, evOps_oc, evOps_na, evOps_nc, evOps_ga, evOps_gc, evOps_nil, isB_tt, isB_tf, isB_ft, isB_ff, isB_u, pick_t, pick_f, evD_l, evD_h, evD_nil, ev1_mov, ev1_pick, ev1_bin, ev1_lenS, ev1_lenL, ev1_load, ev1_idxA, ev1_idxAddrA, ev1_sliceArr, ev1_bytesStr, ev2_alloc, ev3_store, kSt_app, ev1_idxStr, ev1_sliceStr, ev1_convI, ev1_eqt, ev1_eqf, ev1_un, ev1_extract, u_not, ex_0, ex_1, evo_none, evo_some, evt, evc, evg, evf, evs0, evs1, ev3_call, b_add, b_sub, b_mul, b_rem, b_quo, b_adds, b_lss, b_leq, b_gtr, b_geq, lenS_eq, lenL_eq, sl_to, s_idx, convI_eq, s_shl64, s_shr64, n_int, e_int, wrap_i64, wrap_u64, wrap_u32, wrap_u8, not_t, not_f, dec_t, dec_f, cond_t, cond_f, gt_set_same, gt_set_ne, len_set, hl, k3, k4, k5]
    rfl
  case B2 =>
    have hl := k2
    simp (disch := first | decide | omega | (simp only [len_set, hl] <;> omega)) only [gt_set_same, gt_set_ne, len_set, hl]
end
end
end Go.Ev
