/- How sums of words add. No condition. -/
import Derived.Test.YtjldlfaoocmpjaaDoorTotO
set_option linter.unusedVariables false
set_option linter.unusedSimpArgs false
namespace Go.Ev
open Go
noncomputable section
theorem app_list (a b : ByteArray) : (a ++ b).data.toList = a.data.toList ++ b.data.toList := by
  rw [ByteArray.data_append, Array.toList_append]
theorem app_size (a b : ByteArray) : (a ++ b).size = a.size + b.size := ByteArray.size_append
theorem bAt_left (a b : ByteArray) (x : Int) (h0 : 0 ≤ x) (h1 : x < a.size) : bAt (a ++ b) x = bAt a x := by
  unfold bAt
  have h : x.toNat < a.data.toList.length := by have : a.data.toList.length = a.size := rfl
                                                omega
  rw [app_list, List.getD_eq_getElem?_getD, List.getD_eq_getElem?_getD, List.getElem?_append_left h]
theorem bAt_right (a b : ByteArray) (x : Int) (h0 : 0 ≤ x) : bAt (a ++ b) (a.size + x) = bAt b x := by
  unfold bAt
  have hl : a.data.toList.length = a.size := rfl
  rw [app_list, List.getD_eq_getElem?_getD, List.getD_eq_getElem?_getD, List.getElem?_append_right (by omega)]
  congr 4
  omega
theorem wSum_left (a b : ByteArray) : ∀ (m : Nat) (i : Int), 0 ≤ i → i + 4 * m ≤ a.size → wSum (a ++ b) m i = wSum a m i := by
  intro m
  induction m with
  | zero => intro i _ _; rfl
  | succ m ih =>
    intro i h0 h1
    simp only [wSum, wAt]
    rw [ih (i + 4) (by omega) (by omega), bAt_left a b i (by omega) (by omega), bAt_left a b (i + 1) (by omega) (by omega), bAt_left a b (i + 2) (by omega) (by omega), bAt_left a b (i + 3) (by omega) (by omega)]
theorem wSum_right (a b : ByteArray) : ∀ (m : Nat) (i : Int), 0 ≤ i → wSum (a ++ b) m (a.size + i) = wSum b m i := by
  intro m
  induction m with
  | zero => intro i _; rfl
  | succ m ih =>
    intro i h0
    simp only [wSum, wAt]
    have e : ∀ j : Int, (a.size : Int) + i + j = a.size + (i + j) := fun j => by omega
    rw [e 1, e 2, e 3, e 4, ih (i + 4) (by omega), bAt_right a b i h0, bAt_right a b (i + 1) (by omega), bAt_right a b (i + 2) (by omega), bAt_right a b (i + 3) (by omega)]
theorem wSum_add (s : ByteArray) : ∀ (m n : Nat) (i : Int), wSum s (m + n) i = wSum s m i + wSum s n (i + 4 * m) := by
  intro m
  induction m with
  | zero => intro n i; simp [wSum]
  | succ m ih =>
    intro n i
    rw [show m + 1 + n = (m + n) + 1 by omega]
    simp only [wSum]
    rw [ih n (i + 4)]
    have e : i + 4 + 4 * (m : Int) = i + 4 * ((m + 1 : Nat) : Int) := by omega
    rw [e]; omega
theorem wSum_app (a b : ByteArray) (ha : a.size % 4 = 0) (hb : b.size % 4 = 0) : wSum (a ++ b) ((a ++ b).size / 4) 0 = wSum a (a.size / 4) 0 + wSum b (b.size / 4) 0 := by
  have e : (a ++ b).size / 4 = a.size / 4 + b.size / 4 := by rw [app_size]; omega
  rw [e, wSum_add, wSum_left a b _ 0 (by omega) (by omega)]
  congr 1
  have e2 : (0 : Int) + 4 * ((a.size / 4 : Nat) : Int) = a.size + 0 := by omega
  rw [e2, wSum_right a b _ 0 (by omega)]
theorem totF_app (a b : ByteArray) (ha : a.size % 4 = 0) (hb : b.size % 4 = 0) : totF (a ++ b) = if 4294967296 ≤ totF a + totF b then totF a + totF b - 4294967296 + 1 else totF a + totF b := by
  unfold totF
  rw [wSum_app a b ha hb]
  have h1 := wSum_nn a (a.size / 4) 0
  have h2 := wSum_nn b (b.size / 4) 0
  generalize wSum a (a.size / 4) 0 = x at *
  generalize wSum b (b.size / 4) 0 = y at *
  have hx : foldF x = if x = 0 then 0 else (x - 1) % 4294967295 + 1 := rfl
  have hy : foldF y = if y = 0 then 0 else (y - 1) % 4294967295 + 1 := rfl
  have hxy : foldF (x + y) = if x + y = 0 then 0 else (x + y - 1) % 4294967295 + 1 := rfl
  rw [hxy, hx, hy]
  split <;> split <;> split <;> split <;> omega
theorem totF_comm (a b : ByteArray) (ha : a.size % 4 = 0) (hb : b.size % 4 = 0) : totF (b ++ a) = totF (a ++ b) := by
  rw [totF_app a b ha hb, totF_app b a hb ha, Int.add_comm (totF b)]
theorem totF_nn (a : ByteArray) : 0 ≤ totF a ∧ totF a < 4294967296 := foldF_nn _
end
end Go.Ev
