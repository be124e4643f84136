/- FrameCodes, run with any number: the program's functions put together. No condition. -/
import Derived.Test.YtjldlfaoocmpjaaDoorCSPre
import Derived.Test.YtjldlfaoocmpjaaDoorCodesL
set_option linter.unusedVariables false
set_option linter.unusedSimpArgs false
open Go Go.Ev Go.Proofs.Tryd
set_option maxRecDepth 100000
namespace CSTold
noncomputable section
theorem tab9 : told1.tab 9 = some (fdBar 53) := by kernel_rfl
theorem tab6 : told1.tab 6 = some (fdCode 9 39) := by kernel_rfl
theorem tab3 : told1.tab 3 = some fdCodes := by kernel_rfl
theorem bar_ok (n : Nat) : BarOK (told1.call 20000 (n + 1)) 9 := fun h c hb hk => by
  obtain ⟨m, e⟩ := bar_fn (N := 19997) (okf := told1.okf) (call := told1.call 20000 n) (dcall := dcOf 20000 told1.okf evD told1.dct (told1.call 20000 n)) 53 h c hb hk
  refine ⟨m, fun kR kP => ?_⟩
  rw [told1.call_succ 20000 n 9 tab9]
  exact e kR kP
theorem nglob : prog.globals.size = 7 := by kernel_rfl
theorem bar_in : look H0.es 0 = some (entR barL) := rfl
theorem keys_in : KeysLt H0.nx H0.es := by
  have e : H0.nx = 7 := nglob
  rw [e]
  intro p hp
  have hp : p ∈ [(0, entR _), (1, entR _)] := hp
  simp only [List.mem_cons, List.not_mem_nil, or_false] at hp
  rcases hp with rfl | rfl
  · show 0 < 7; omega
  · show 1 < 7; omega
theorem code_call (v : Nat) (hv : v < 4294967296) : ∃ m, ∀ kR kP, told1.call 20000 199 (.fn 6) [.int .u32 (v : Int)] H0 kR kP = kR (.string (codeS v)) { es := H0.es, nx := H0.nx + 1 + m, low := H0.low } := by
  obtain ⟨m, e⟩ := code_fn (N := 20000) (okf := told1.okf) (call := told1.call 20000 198) (dcall := dcOf 20000 told1.okf evD told1.dct (told1.call 20000 198)) 9 (bar_ok 197) (by omega) 39 v hv H0 bar_in keys_in (by rw [show H0.nx = 7 from nglob]; omega)
  refine ⟨m, fun kR kP => ?_⟩
  rw [told1.call_succ 20000 198 6 tab6]
  exact e kR kP
theorem codes_runs (v : Nat) (hv : v < 4294967296) : told1.call 20000 200 (.fn 3) [.int .u32 (v : Int)] H0 (fun v _ => some v) (fun _ _ => none) = some (.bool true) := by
  rw [told1.call_succ 20000 199 3 tab3]
  obtain ⟨m, hcode⟩ := code_call v hv
  obtain ⟨env', e1, e2⟩ := codes_code (N := 20000) (okf := told1.okf) (call := told1.call 20000 199) (by omega) H0 _ alive_call v hv hcode (Env.start [.int .u32 (v : Int)] (Nat.sub 70 1) Ev.undef) (by rw [len_start]; rfl) (by rw [gt_start]; rfl)
  unfold fdCodes
  rw [evFn_st (h := H0) (env' := env') e1, e2]
theorem codes_calls (a : Int) (ha : (Lit.int .u32 a).wf = true) (w : World) (hw0 : TabIn w 0 (barredLL.flatten.map fun z => .int .i64 z)) (hw1 : TabIn w 1 (pow10L.map fun z => .int .u64 z)) : Calls prog 3 #[.int .u32 a] w fun
    | .returned v', u => v' = .bool true ∧ Left w u
    | _, _ => False := by
  obtain ⟨v, rfl, hv⟩ : ∃ v : Nat, a = v ∧ v < 4294967296 := by
    have : (0 : Int) ≤ a ∧ a < 4294967296 := by
      have h := ha
      simp only [Lit.wf, Bool.and_eq_true, decide_eq_true_eq] at h
      have h1 : IntKind.u32.min = 0 := by decide
      have h2 : IntKind.u32.max = 4294967295 := by decide
      omega
    exact ⟨a.toNat, by omega, by omega⟩
  exact told1.closedG 20000 200 (args := [.int .u32 (v : Int)]) (by rfl) (by kernel_rfl) (bool_only true) (by kernel_rfl) (by rfl) (codes_runs v hv) w (fun j g L h1 h2 => by
    match j, h1, h2 with
    | 0, h1, h2 => cases h1; cases h2; exact hw0
    | 1, h1, h2 => cases h1; cases h2; exact hw1
    | j + 2, h1, _ => cases h1)
end
end CSTold
#print axioms CSTold.codes_calls
