/- The sum of a string's words as an answer in the place of the function's code. No condition. -/
import Derived.Test.YtmihmfnheeciaaaGreatDoorTot
set_option linter.unusedVariables false
set_option linter.unusedSimpArgs false
namespace Go.Ev
open Go
noncomputable section
def wordN (a b c d : UInt8) : Nat := Nat.add (Nat.add (Nat.add (Nat.mul a.toNat 16777216) (Nat.mul b.toNat 65536)) (Nat.mul c.toNat 256)) d.toNat
def totK (m : Nat) (l : List UInt8) (acc : Nat) (k : Nat → R) : R :=
  Nat.rec (motive := fun _ => List UInt8 → Nat → R) (fun _ acc => k acc)
    (fun _ ih l acc => match l with | a :: b :: c :: d :: r => forceN (Nat.add acc (wordN a b c d)) fun acc => ih r acc | _ => none) m l acc
def foldN (t : Nat) : Nat := match Nat.beq t 0 with | true => 0 | false => Nat.succ (Nat.mod (Nat.pred t) 4294967295)
def totO : OC := fun args h kR => match args with
  | [.string s] => (match Nat.blt s.size 70000 with
    | true => totK (Nat.div s.size 4) s.data.toList 0 fun t => forceN (foldN t) fun t => kR (.int .u32 (.ofNat t)) h
    | false => none)
  | _ => none
theorem totK_eq (s : ByteArray) (k : Nat → R) : ∀ (m i acc : Nat), i + 4 * m ≤ s.size → totK m (s.data.toList.drop i) acc k = k (acc + (wSum s m i).toNat) := by
  intro m
  induction m with
  | zero => intro i acc _; show k acc = k (acc + (0 : Int).toNat); simp
  | succ m ih =>
    intro i acc hi
    have hl : s.data.toList.length = s.size := rfl
    have e : ∀ j, i ≤ j → j < s.size → s.data.toList.drop j = s.data.toList.getD j 0 :: s.data.toList.drop (j + 1) := fun j _ hj => by
      rw [List.drop_eq_getElem_cons (by omega), List.getD_eq_getElem?_getD, List.getElem?_eq_getElem (by omega)]; rfl
    rw [e i (by omega) (by omega), e (i + 1) (by omega) (by omega), e (i + 1 + 1) (by omega) (by omega), e (i + 1 + 1 + 1) (by omega) (by omega)]
    show forceN _ (fun acc => totK m (s.data.toList.drop (i + 1 + 1 + 1 + 1)) acc k) = _
    rw [forceN_eq, ih (i + 4) _ (by omega)]
    congr 1
    have hw := wSum_nn s m ((i : Int) + 4)
    have hv0 : wAt s i = (wordN (s.data.toList.getD i 0) (s.data.toList.getD (i + 1) 0) (s.data.toList.getD (i + 2) 0) (s.data.toList.getD (i + 3) 0) : Nat) := by
      show bAt s i * 16777216 + bAt s ((i : Int) + 1) * 65536 + bAt s ((i : Int) + 2) * 256 + bAt s ((i : Int) + 3) = _
      have b : ∀ j : Nat, bAt s ((i : Int) + j) = ((s.data.toList.getD (i + j) 0).toNat : Int) := fun j => rfl
      have b0 : bAt s (i : Int) = ((s.data.toList.getD i 0).toNat : Int) := rfl
      rw [b0, show bAt s ((i : Int) + 1) = _ from b 1, show bAt s ((i : Int) + 2) = _ from b 2, show bAt s ((i : Int) + 3) = _ from b 3]
      simp only [wordN, Nat.add_eq, Nat.mul_eq]
      omega
    have hv : wAt s i = (wordN (s.data.toList.getD i 0) (s.data.toList.getD (i + 1) 0) (s.data.toList.getD (i + 1 + 1) 0) (s.data.toList.getD (i + 1 + 1 + 1) 0) : Nat) := hv0
    have hc : ((i + 4 : Nat) : Int) = (i : Int) + 4 := by omega
    rw [hc]
    simp only [wSum]
    have hn := wAt_nn s i
    show acc + wordN _ _ _ _ + _ = acc + _
    omega
theorem foldN_eq (t : Nat) : (foldN t : Int) = foldF t := by
  unfold foldN foldF
  cases h : Nat.beq t 0 with
  | true => have := beq_true.1 h; subst this; rfl
  | false =>
    have ht : t ≠ 0 := fun e => by rw [beq_true.2 e] at h; cases h
    rw [if_neg (by omega)]
    show ((((t - 1) % 4294967295 + 1 : Nat)) : Int) = _
    omega
theorem totO_eq (s : ByteArray) (hs : s.size < 70000) (h : H) (kR : KV) : totO [.string s] h kR = kR (.int .u32 (totF s)) h := by
  have h1 : Nat.blt s.size 70000 = true := blt_iff.2 hs
  have h2 := totK_eq s (fun t => forceN (foldN t) fun t => kR (.int .u32 (.ofNat t)) h) (s.size / 4) 0 0 (by omega)
  simp only [totO, h1]
  show totK (s.size / 4) (s.data.toList.drop 0) 0 _ = _
  rw [h2, forceN_eq]
  congr 2
  show ((foldN (0 + (wSum s (s.size / 4) ((0 : Nat) : Int)).toNat) : Nat) : Int) = totF s
  rw [foldN_eq]
  have hw := wSum_nn s (s.size / 4) 0
  unfold totF
  congr 1
  show ((0 + (wSum s (s.size / 4) 0).toNat : Nat) : Int) = _
  omega
theorem total_call {P : Program} (T : Told P) {f : Nat} (ht : T.tab f = some fdTotal) (s : ByteArray) (hs : s.size < 70000) (n : Nat) (h : H) (kR kP : KV) : T.call 20000 (n + 1) (.fn f) [.string s] h kR kP = kR (.int .u32 (totF s)) h := by
  rw [T.call_succ 20000 n f ht]
  obtain ⟨env', e1, e2⟩ := total_code (N := 20000) (okf := T.okf) (call := T.call 20000 n) s (Env.start [.string s] (Nat.sub 49 1) undef) (by omega) (by omega) (by omega) (by rw [len_start]; rfl) (by rw [gt_start]; rfl)
  unfold fdTotal
  rw [evFn_ret e1, e2]
theorem totO_ok {P : Program} (T : Told P) {f : Nat} (ht : T.tab f = some fdTotal) : ∀ args h (kR kP : KV) out, totO args h kR = some out → ∃ N n, T.call N n (.fn f) args h kR kP = some out := by
  intro args h kR kP out hx
  unfold totO at hx
  split at hx
  · rename_i s
    split at hx
    · rename_i hs
      have hs := blt_iff.1 hs
      refine ⟨20000, 1, ?_⟩
      rw [total_call T ht s hs]
      rw [← totO_eq s hs h kR]
      unfold totO
      simp only [blt_iff.2 hs]
      exact hx
    · cases hx
  · cases hx
end
end Go.Ev
