/- Part of a shadow evaluator for the program's form, proved sound over the kit's rules: a means for closed calls. No condition. -/
import Derived.LaidEql
import Derived.Lib.Builder
import Derived.Lib.UnsafeStr
import Derived.Lib.ConvBytes
import Derived.Laws.BytesArg
import Derived.Test.YtmihmfnheeciaaaGreatDoorEvA
set_option linter.unusedVariables false
set_option linter.unusedSimpArgs false
namespace Go.Ev
open Go
noncomputable section

/-! ### What the operators come to -/
section
variable {x y : Value} {f : Value → R} {out : Value}
theorem int2_inv {g : IntKind → Int → Int → R} (h : int2 x y g = some out) : ∃ k a b, x = .int k a ∧ y = .int k b ∧ g k a b = some out := by
  unfold int2 at h
  split at h
  · rename_i k a
    split at h
    · rename_i k' b
      split at h
      · rename_i hk; have hk : k = k' := by simpa using hk
        subst hk; exact ⟨k, a, b, rfl, rfl, h⟩
      · cases h
    · cases h
  · cases h
theorem opAdd_inv (h : opAdd x y f = some out) : (∃ k a b, x = .int k a ∧ y = .int k b ∧ f (.int k (k.wrap (a + b))) = some out) ∨
    (∃ a b, x = .string a ∧ y = .string b ∧ a.size + b.size ≤ 9223372036854775807 ∧ f (.string (a ++ b)) = some out) := by
  unfold opAdd at h
  split at h
  · rename_i k a
    split at h
    · rename_i k' b
      split at h
      · rename_i hk; have hk : k = k' := by simpa using hk
        subst hk; rw [retI_eq, wrapW_eq] at h; exact .inl ⟨k, a, b, rfl, rfl, h⟩
      · cases h
    · cases h
  · rename_i a
    split at h
    · rename_i b
      split at h
      · rename_i hk; exact .inr ⟨a, b, rfl, rfl, ble_iff.1 hk, h⟩
      · cases h
    · cases h
  · cases h

theorem bin_sound {P : Program} {op : BinOp} (t : TypeId) (h : evBin op x y f = some out) : ∃ v, f v = some out ∧ (∀ φ, VRel φ v v) ∧
    ∀ φ x' y', VRel φ x x' → VRel φ y y' → ∀ w, (binOp op t x' y').run P w = .ok v w := by
  have int : ∀ (k : IntKind) (n : Int) φ, VRel φ (.int k n) (.int k n) := fun k n φ => .int k n
  have one : ∀ {k : IntKind} {a b : Int} {x' y' : Value} {φ : Phi}, VRel φ (.int k a) x' → VRel φ (.int k b) y' → x' = .int k a ∧ y' = .int k b := fun h1 h2 => ⟨h1.inv_int, h2.inv_int⟩
  cases op <;> simp only [evBin] at h <;> try (cases h; done)
  case add =>
    rcases opAdd_inv h with ⟨k, a, b, rfl, rfl, h'⟩ | ⟨a, b, rfl, rfl, hs, h'⟩
    · exact ⟨_, h', int _ _, fun φ x' y' h1 h2 w => by obtain ⟨rfl, rfl⟩ := one h1 h2; simp [binOp, Op.intArith]⟩
    · refine ⟨_, h', fun φ => .str _, fun φ x' y' h1 h2 w => ?_⟩
      rw [h1.inv_str, h2.inv_str]
      have : ¬ (((a.size + b.size : Nat) : Int) > IntKind.i64.max) := by
        simp only [IntKind.max, IntKind.signed, IntKind.bits]; simp; omega
      simp only [binOp, Op.stringOp]
      rw [if_neg this]; rfl
  case sub =>
    obtain ⟨k, a, b, rfl, rfl, h'⟩ := int2_inv h; clear h; have h := h'; clear h'
    rw [retI_eq, wrapW_eq] at h
    exact ⟨_, h, int _ _, fun φ x' y' h1 h2 w => by obtain ⟨rfl, rfl⟩ := one h1 h2; simp [binOp, Op.intArith, Int.sub_eq_add_neg]; rfl⟩
  case mul =>
    obtain ⟨k, a, b, rfl, rfl, h'⟩ := int2_inv h; clear h; have h := h'; clear h'
    rw [retI_eq, wrapW_eq] at h
    exact ⟨_, h, int _ _, fun φ x' y' h1 h2 w => by obtain ⟨rfl, rfl⟩ := one h1 h2; simp [binOp, Op.intArith]⟩
  case quo =>
    obtain ⟨k, a, b, rfl, rfl, h'⟩ := int2_inv h; clear h; have h := h'; clear h'
    split at h
    · cases h
    · rename_i hz
      rw [retI_eq, wrapW_eq] at h
      have hb : ¬ b = 0 := by rw [ieq_eq] at hz; simpa using hz
      exact ⟨_, h, int _ _, fun φ x' y' h1 h2 w => by obtain ⟨rfl, rfl⟩ := one h1 h2; simp [binOp, Op.intDiv, hb]⟩
  case rem =>
    obtain ⟨k, a, b, rfl, rfl, h'⟩ := int2_inv h; clear h; have h := h'; clear h'
    split at h
    · cases h
    · rename_i hz
      rw [retI_eq] at h
      have hb : ¬ b = 0 := by rw [ieq_eq] at hz; simpa using hz
      exact ⟨_, h, int _ _, fun φ x' y' h1 h2 w => by obtain ⟨rfl, rfl⟩ := one h1 h2; simp [binOp, Op.intDiv, hb]⟩
  case and =>
    obtain ⟨k, a, b, rfl, rfl, h'⟩ := int2_inv h; clear h; have h := h'; clear h'
    rw [retI_eq, wrapW_eq, natOf_eq, natOf_eq] at h
    exact ⟨_, h, int _ _, fun φ x' y' h1 h2 w => by obtain ⟨rfl, rfl⟩ := one h1 h2; simp [binOp, Op.intBits]⟩
  case or =>
    obtain ⟨k, a, b, rfl, rfl, h'⟩ := int2_inv h; clear h; have h := h'; clear h'
    rw [retI_eq, wrapW_eq, natOf_eq, natOf_eq] at h
    exact ⟨_, h, int _ _, fun φ x' y' h1 h2 w => by obtain ⟨rfl, rfl⟩ := one h1 h2; simp [binOp, Op.intBits]⟩
  case xor =>
    obtain ⟨k, a, b, rfl, rfl, h'⟩ := int2_inv h; clear h; have h := h'; clear h'
    rw [retI_eq, wrapW_eq, natOf_eq, natOf_eq] at h
    exact ⟨_, h, int _ _, fun φ x' y' h1 h2 w => by obtain ⟨rfl, rfl⟩ := one h1 h2; simp [binOp, Op.intBits]⟩
  case shl =>
    unfold opShl at h
    split at h
    · rename_i k a
      split at h
      · rename_i k' b
        unfold shiftN at h
        split at h
        · rename_i n
          simp only [retI_eq, wrapW_eq] at h
          refine ⟨_, h, int _ _, fun φ x' y' h1 h2 w => ?_⟩
          rw [h1.inv_int, h2.inv_int]
          have hn : ¬ ((Int.ofNat n) < 0) := by simp only [Int.ofNat_eq_natCast]; omega
          simp only [binOp, Op.shift]
          rw [if_neg hn]
          have e : (Int.ofNat (Nat.pow 2 (n.min k.bits))) = (2 : Int) ^ (min (Int.ofNat n).toNat k.bits) := by
            simp only [Int.ofNat_eq_natCast, Int.toNat_natCast]
            exact Int.natCast_pow 2 _
          rw [e]; rfl
        · cases h
      · cases h
    · cases h
  case shr =>
    unfold opShr at h
    split at h
    · rename_i k a
      split at h
      · rename_i k' b
        unfold shiftN at h
        split at h
        · rename_i n
          simp only [retI_eq] at h
          refine ⟨_, h, int _ _, fun φ x' y' h1 h2 w => ?_⟩
          rw [h1.inv_int, h2.inv_int]
          have hn : ¬ ((Int.ofNat n) < 0) := by simp only [Int.ofNat_eq_natCast]; omega
          simp only [binOp, Op.shift]
          rw [if_neg hn]
          have e : (Int.ofNat (Nat.pow 2 (n.min k.bits))) = (2 : Int) ^ (min (Int.ofNat n).toNat k.bits) := by
            simp only [Int.ofNat_eq_natCast, Int.toNat_natCast]
            exact Int.natCast_pow 2 _
          rw [e]; rfl
        · cases h
      · cases h
    · cases h
  case lss =>
    unfold opLss at h
    split at h
    · rename_i a
      split at h
      · rename_i b
        exact ⟨_, h, fun φ => .bool _, fun φ x' y' h1 h2 w => by rw [h1.inv_str, h2.inv_str]; simp [binOp, Op.stringOp, strLt_eq]⟩
      · cases h
    · obtain ⟨k, a, b, rfl, rfl, h'⟩ := int2_inv h; clear h; have h := h'; clear h'
      rw [ilt_eq] at h
      exact ⟨_, h, fun φ => .bool _, fun φ x' y' h1 h2 w => by obtain ⟨rfl, rfl⟩ := one h1 h2; simp [binOp, Op.intCmp]⟩
  case leq =>
    unfold opLeq at h
    split at h
    · rename_i a
      split at h
      · rename_i b
        rw [strEq_eq] at h
        exact ⟨_, h, fun φ => .bool _, fun φ x' y' h1 h2 w => by rw [h1.inv_str, h2.inv_str]; simp [binOp, Op.stringOp, strLt_eq]⟩
      · cases h
    · obtain ⟨k, a, b, rfl, rfl, h'⟩ := int2_inv h; clear h; have h := h'; clear h'
      rw [ile_eq] at h
      exact ⟨_, h, fun φ => .bool _, fun φ x' y' h1 h2 w => by obtain ⟨rfl, rfl⟩ := one h1 h2; simp [binOp, Op.intCmp]⟩
  case gtr =>
    unfold opGtr at h
    split at h
    · rename_i a
      split at h
      · rename_i b
        rw [strEq_eq] at h
        exact ⟨_, h, fun φ => .bool _, fun φ x' y' h1 h2 w => by rw [h1.inv_str, h2.inv_str]; simp [binOp, Op.stringOp, strLt_eq]⟩
      · cases h
    · obtain ⟨k, a, b, rfl, rfl, h'⟩ := int2_inv h; clear h; have h := h'; clear h'
      simp only [ilt_eq] at h
      exact ⟨_, h, fun φ => .bool _, fun φ x' y' h1 h2 w => by obtain ⟨rfl, rfl⟩ := one h1 h2; simp [binOp, Op.intCmp]⟩
  case geq =>
    unfold opGeq at h
    split at h
    · rename_i a
      split at h
      · rename_i b
        exact ⟨_, h, fun φ => .bool _, fun φ x' y' h1 h2 w => by rw [h1.inv_str, h2.inv_str]; simp [binOp, Op.stringOp, strLt_eq]⟩
      · cases h
    · obtain ⟨k, a, b, rfl, rfl, h'⟩ := int2_inv h; clear h; have h := h'; clear h'
      simp only [ile_eq] at h
      exact ⟨_, h, fun φ => .bool _, fun φ x' y' h1 h2 w => by obtain ⟨rfl, rfl⟩ := one h1 h2; simp [binOp, Op.intCmp]⟩
theorem un_sound {P : Program} {op : UnOp} (h : evUn op x f = some out) : ∃ v, f v = some out ∧ (∀ φ, VRel φ v v) ∧
    ∀ φ x', VRel φ x x' → ∀ w, (Op.unary op x').run P w = .ok v w := by
  cases op <;> simp only [evUn] at h <;> try (cases h; done)
  case neg =>
    unfold unNeg at h
    split at h
    · rename_i k a
      rw [retI_eq, wrapW_eq] at h
      exact ⟨_, h, fun φ => .int _ _, fun φ x' h1 w => by rw [h1.inv_int]; simp [Op.unary, Op.intArith]; rfl⟩
    · cases h
  case xor =>
    unfold unXor at h
    split at h
    · rename_i k a
      rw [retI_eq, wrapW_eq, natOf_eq] at h
      refine ⟨_, h, fun φ => .int _ _, fun φ x' h1 w => ?_⟩
      rw [h1.inv_int]
      have key : (BitVec.ofInt k.bits (if k.signed then -1 else k.max)) = BitVec.allOnes k.bits := by
        cases k <;> decide +kernel
      simp only [Op.unary, Op.intBits, key, BitVec.allOnes_xor, BitVec.toNat_not]
      simp only [Sem.run_pure]
      congr 4
      cases k <;> rfl
    · cases h
  case not =>
    unfold unNot at h
    split at h
    · exact ⟨_, h, fun φ => .bool _, fun φ x' h1 w => by rw [h1.inv_bool]; simp [Op.unary]⟩
    · cases h
end
end
end Go.Ev

namespace Go.Ev
open Go
noncomputable section

section
variable {P : Program} {LB : LBody} {φ : Phi} {h : H} {w : World} {f : Value → R} {out : Value}

theorem addr_inv {x : Value} {g : Nat → Nat → R} (hx : addr x g = some out) : ∃ b off, x = .pointer (some ⟨b, off, none⟩) ∧ g b off = some out := by
  unfold addr at hx
  split at hx
  · rename_i a
    split at hx
    · rename_i hs
      obtain ⟨b, off, sp⟩ := a
      simp only at hs; subst hs
      exact ⟨b, off, rfl, hx⟩
    · cases hx
  · cases hx
theorem cellsAt_inv {b : Nat} {g : Tr → Nat → Bool → FT → R} (hx : cellsAt h b g = some out) : ∃ c s ro fl, look h.es b = some (.cells c s ro fl) ∧ g c s ro fl = some out := by
  unfold cellsAt at hx
  split at hx
  · rename_i c s ro fl he; exact ⟨c, s, ro, fl, he, hx⟩
  · cases hx
/-- what is known of a pointer whose block is there -/
theorem ptr_cells (hH : HRel LB φ h w) {b off : Nat} {v' : Value} (hv : VRel φ (.pointer (some ⟨b, off, none⟩)) v') {c : Tr} {s : Nat} {ro : Bool} {fl : FT} (hl : look h.es b = some (.cells c s ro fl)) :
    ∃ p cs t fr, φ b = some p ∧ v' = .pointer (some ⟨p.b, off + p.s, none⟩) ∧ w.heap[p.b]? = some (.cells cs t fr) ∧ p.s + s ≤ cs.size ∧ cs.size = p.tot ∧ ((ro = false → ∀ i, (fl.fz = 0 ∨ p.s + fl.fz ≤ i) → i < cs.size → ¬ (fr.1 ≤ i ∧ i < fr.2)) ∧ (∀ ty, fl.ty = some ty → t = ty ∧ (fr.2 = 0 ∨ (fl.fz ≠ 0 ∧ fr.2 ≤ p.s + fl.fz))) ∧ (fl.ex = true → p.s = 0 ∧ cs.size = s)) ∧
      ∀ i v, c.get i = some v → i < s ∧ atom v = true ∧ ∃ v', cs[p.s + i]? = some v' ∧ VRel φ v v' := by
  obtain ⟨p, h1, _, h2⟩ := hv.inv_ptr
  obtain ⟨q, h3, cs, t, fr, h4, h5, h6, h7, h8⟩ := hH.live b _ hl
  rw [h1] at h3; cases h3
  exact ⟨p, cs, t, fr, h1, h2, h4, h5, h6, h7, h8⟩
/-- cells in a row -/
theorem cells_row {c : Tr} {s : Nat} {p : Pl} {cs : Array Value} (h8 : ∀ i v, c.get i = some v → i < s ∧ atom v = true ∧ ∃ v', cs[p.s + i]? = some v' ∧ VRel φ v v') {off n : Nat} {l : List Value}
    (hl : getN c off n = some l) : ∃ l', l'.length = n ∧ LRel φ l l' ∧ ∀ j v, l'[j]? = some v → cs[off + p.s + j]? = some v := by
  obtain ⟨h1, h2⟩ := getN_spec c n off l hl
  have each : ∀ i, i < n → ∃ v', cs[off + p.s + i]? = some v' ∧ ∀ v, l[i]? = some v → VRel φ v v' := fun i hi => by
    have := h2 i hi
    cases hv : l[i]? with
    | none => simp at hv; omega
    | some v =>
      rw [hv] at this
      obtain ⟨_, _, v', h3, h4⟩ := h8 _ _ this
      exact ⟨v', by rw [show off + p.s + i = p.s + (off + i) by omega]; exact h3, fun u hu => by cases hu; exact h4⟩
  have pick : ∃ g : Nat → Value, ∀ i, i < n → cs[off + p.s + i]? = some (g i) ∧ ∀ v, l[i]? = some v → VRel φ v (g i) := by
    refine ⟨fun i => cs.getD (off + p.s + i) Go.undef, fun i hi => ?_⟩
    obtain ⟨v', h3, h4⟩ := each i hi
    have : cs.getD (off + p.s + i) Go.undef = v' := by simp [Array.getD_eq_getD_getElem?, h3]
    dsimp only; rw [this]; exact ⟨h3, h4⟩
  obtain ⟨g, hg⟩ := pick
  refine ⟨(List.range n).map g, by simp, ⟨by simp [h1], fun i v v' a b => ?_⟩, fun j v hj => ?_⟩
  · have hi : i < n := by have := (List.getElem?_eq_some_iff.1 a).1; omega
    simp [hi] at b; subst b
    exact (hg i hi).2 v a
  · by_cases hi : j < n
    · simp [hi] at hj; subst hj; exact (hg j hi).1
    · simp [hi] at hj

theorem load_sound (hH : HRel LB φ h w) {t : TypeId} {n : Option Nat} {x x' : Value} (hd : szAgg P t = some n) (hv : VRel φ x x') (hx : load n x h f = some out) :
    ∃ v v', f v = some out ∧ VRel φ v v' ∧ (Instr.loadAt t x').run P w = .ok v' w := by
  unfold szAgg at hd
  cases hi : P.info? t with
  | none => rw [hi] at hd; cases hd
  | some i =>
    cases hu : P.underlying t with
    | none => rw [hi, hu] at hd; cases hd
    | some d =>
      rw [hi, hu] at hd
      have one : n = none → (isAgg t).run P w = .ok false w → ∃ v v', f v = some out ∧ VRel φ v v' ∧ (Instr.loadAt t x').run P w = .ok v' w := fun hn ha => by
        subst hn
        unfold load load1 at hx
        obtain ⟨b, off, rfl, hx⟩ := addr_inv hx
        obtain ⟨c, s, ro, fl, hl, hx⟩ := cellsAt_inv hx
        obtain ⟨p, cs, ty, fr, _, rfl, h4, h5, h6, h7, h8⟩ := ptr_cells hH hv hl
        split at hx
        · rename_i v hc
          obtain ⟨_, _, v', h9, h10⟩ := h8 _ _ hc
          refine ⟨v, v', hx, h10, ?_⟩
          simp only [Instr.loadAt, Instr.sureAddr, Sem.run_bind, Sem.run_pure, Result.andThen_ok, loadVar, ha, Bool.false_eq_true, if_false, run_load, cell_at h4]
          rw [show off + p.s = p.s + off by omega, h9]
        · cases hx
      have many : n = some i.size → (isAgg t).run P w = .ok true w → ∃ v v', f v = some out ∧ VRel φ v v' ∧ (Instr.loadAt t x').run P w = .ok v' w := fun hn ha => by
        subst hn
        unfold load loadN at hx
        obtain ⟨b, off, rfl, hx⟩ := addr_inv hx
        obtain ⟨c, s, ro, fl, hl, hx⟩ := cellsAt_inv hx
        obtain ⟨p, cs, ty, fr, _, rfl, h4, h5, h6, h7, h8⟩ := ptr_cells hH hv hl
        split at hx
        · rename_i l hc
          obtain ⟨l', h9, h10, h11⟩ := cells_row h8 hc
          refine ⟨_, .agg l'.toArray, hx, VRel.agg' h10, ?_⟩
          simp only [Instr.loadAt, Instr.sureAddr, Sem.run_bind, Sem.run_pure, Result.andThen_ok, loadVar, ha, if_true, run_sizeOf hi, run_loadCells P h4 h9 h11]
        · cases hx
      have ha := run_isAgg (P := P) hu w
      cases d <;> simp only at hd ha <;> cases hd <;> first
        | exact one rfl ha
        | exact many rfl ha

theorem nilCheck_sound {x x' : Value} {tst : Operand} {a : Act} (hv : VRel φ x x') (hx : nilCheck x f = some out) (hx' : a.eval tst = x') {dst : Option Tmp} {ty : TypeId} {pos : String} {af : Array Edge} {gd : Option (Nat × Bool)} :
    f x = some out ∧ (execOp a.eval { dst, op := .nilCheck tst, type := ty, pos, after := af, guard := gd }).run P w = .ok (.value x') w := by
  unfold nilCheck at hx
  split at hx
  · rename_i ad
    obtain ⟨p, h1, _, rfl⟩ := hv.inv_ptr
    exact ⟨hx, by simp [execOp, hx']⟩
  · cases hv with
    | fn g h1 h2 h3 h4 => exact ⟨hx, by simp [execOp, hx']⟩
  · cases hx
theorem part_sound {t : TypeId} {off : Nat} {n : Option Nat} {l l' : List Value} (hd : szAgg P t = some n) (hl : LRel φ l l') (hx : part off n l f = some out) :
    ∃ v v', f v = some out ∧ VRel φ v v' ∧ (Go.part t l'.toArray off).run P w = .ok v' w := by
  unfold szAgg at hd
  cases hi : P.info? t with
  | none => rw [hi] at hd; cases hd
  | some i =>
    cases hu : P.underlying t with
    | none => rw [hi, hu] at hd; cases hd
    | some d =>
      rw [hi, hu] at hd
      have one : n = none → (isAgg t).run P w = .ok false w → ∃ v v', f v = some out ∧ VRel φ v v' ∧ (Go.part t l'.toArray off).run P w = .ok v' w := fun hn ha => by
        subst hn
        unfold Ev.part at hx
        simp only at hx
        split at hx
        · rename_i v hv
          obtain ⟨v', h1, h2⟩ := hl.at hv
          exact ⟨v, v', hx, h2, by simp [Go.part, ha, h1]⟩
        · cases hx
      have many : n = some i.size → (isAgg t).run P w = .ok true w → ∃ v v', f v = some out ∧ VRel φ v v' ∧ (Go.part t l'.toArray off).run P w = .ok v' w := fun hn ha => by
        subst hn
        unfold Ev.part at hx
        simp only at hx
        split at hx
        · rename_i hle
          refine ⟨_, .agg ((l'.drop off).take i.size).toArray, hx, VRel.agg' ((hl.drop off).take _), ?_⟩
          simp only [Go.part, Sem.run_bind, ha, Result.andThen_ok, if_true, run_sizeOf hi, Sem.run_pure]
          congr 2
          simp [List.take_drop, Nat.add_comm]
        · cases hx
      have ha := run_isAgg (P := P) hu w
      cases d <;> simp only at hd ha <;> cases hd <;> first
        | exact one rfl ha
        | exact many rfl ha
theorem idxN_inv {len : Nat} {i : Value} {g : Nat → R} (hx : idxN len i g = some out) : ∃ k n, i = .int k (n : Nat) ∧ n < len ∧ g n = some out := by
  unfold idxN at hx
  split at hx
  · rename_i k n
    split at hx
    · rename_i hn; exact ⟨k, n, rfl, blt_iff.1 hn, hx⟩
    · cases hx
  · cases hx
end
end
end Go.Ev

namespace Go.Ev
open Go Go.Lib
noncomputable section

def eqKind (P : Program) (t : TypeId) : Option EK :=
  match P.underlying t with
  | some (.int _) | some .string => some .num
  | some .bool => some .bool
  | some (.pointer e) => (match P.info? e with | some _ => some .ptr | none => none)
  | some (.slice _) => some .slice
  | some (.func ..) => some .func
  | some (.interface _) => some .iface
  | _ => none
def isC : Operand → Bool
  | .const _ => true
  | _ => false

section
variable {P : Program} {LB : LBody} {φ : Phi} {h : H} {w : World} {f : Value → R} {out : Value}

theorem equal_step (t : TypeId) (x y : Value) : Op.equal t x y = Op.equalIn Op.maxDepth t x y := rfl
theorem guard_ok (op : BinOp) (t : TypeId) (xo yo : Operand) (x y : Value) (h1 : ¬ (x = .nilIface ∧ y = .nilIface)) (h2 : ∀ a, x ≠ .agg a) : (eqGuard op t xo yo x y).run P w = .ok () w := by
  unfold eqGuard
  cases op <;> simp only [Bool.not_true, Bool.not_false, Bool.false_eq_true, if_true, if_false, Sem.run_pure] <;> first
    | rfl
    | (cases x <;> cases y <;> first
        | rfl
        | (exact absurd ⟨rfl, rfl⟩ h1)
        | (exact absurd rfl (h2 _)))
theorem guard_nil (op : BinOp) (t : TypeId) (xo yo : Operand) (hc : (isC xo || isC yo) = true) : (eqGuard op t xo yo .nilIface .nilIface).run P w = .ok () w := by
  unfold eqGuard
  cases op <;> cases xo <;> cases yo <;> first
    | rfl
    | (simp [isC] at hc; done)
variable {d : Nat} {t : TypeId}
theorem in_bool (hu : P.underlying t = some .bool) (a b : Bool) : (Op.equalIn (d + 1) t (.bool a) (.bool b)).run P w = .ok (a == b) w := by simp [Op.equalIn, run_underlying hu]
theorem in_iface1 {m} (hu : P.underlying t = some (.interface m)) : (Op.equalIn (d + 1) t .nilIface .nilIface).run P w = .ok true w := by simp [Op.equalIn, run_underlying hu]
theorem in_iface2 {m} (hu : P.underlying t = some (.interface m)) (u v) : (Op.equalIn (d + 1) t .nilIface (.iface u v)).run P w = .ok false w := by simp [Op.equalIn, run_underlying hu]
theorem in_iface3 {m} (hu : P.underlying t = some (.interface m)) (u v) : (Op.equalIn (d + 1) t (.iface u v) .nilIface).run P w = .ok false w := by simp [Op.equalIn, run_underlying hu]
theorem in_slice {e} (hu : P.underlying t = some (.slice e)) (a : Option Addr) (n c m k) : (Op.equalIn (d + 1) t (.slice a n c) (.slice none m k)).run P w = .ok a.isNone w := by
  cases a <;> simp [Op.equalIn, run_underlying hu]
theorem in_ptr {e} (hu : P.underlying t = some (.pointer e)) (a : Option Addr) : (Op.equalIn (d + 1) t (.pointer a) (.pointer none)).run P w = .ok a.isNone w := by
  cases a <;> simp [Op.equalIn, run_underlying hu]
theorem in_ptr_same {e} {j : TypeInfo} (hu : P.underlying t = some (.pointer e)) (hj : P.info? e = some j) (a : Addr) : (Op.equalIn (d + 1) t (.pointer (some a)) (.pointer (some a))).run P w = .ok true w := by
  simp [Op.equalIn, run_underlying hu, sizeOf, typeInfo, hj, run_sameAddr_same]
theorem in_func1 {a b c} (hu : P.underlying t = some (.func a b c)) : (Op.equalIn (d + 1) t .nilFunc .nilFunc).run P w = .ok true w := by simp [Op.equalIn, run_underlying hu]
theorem in_func2 {a b c} (hu : P.underlying t = some (.func a b c)) (x y z) : (Op.equalIn (d + 1) t (.func x y z) .nilFunc).run P w = .ok false w := by simp [Op.equalIn, run_underlying hu]
theorem max_succ : Op.maxDepth = 9999 + 1 := rfl


theorem eqV_sound {kd : EK} {g : Bool → R} {x y x' y' : Value} {xo yo : Operand} (hk : eqKind P t = some kd) (hc : kd = .iface → (isC xo || isC yo) = true)
    (h1 : VRel φ x x') (h2 : VRel φ y y') (hx : eqV kd x y g = some out) :
    ∃ b, g b = some out ∧ (∀ op, (eqGuard op t xo yo x' y').run P w = .ok () w) ∧
      (binOp .eql t x' y').run P w = .ok (.bool b) w ∧ (binOp .neq t x' y').run P w = .ok (.bool (!b)) w := by
  have fin : ∀ {b : Bool}, (Op.equalIn Op.maxDepth t x' y').run P w = .ok b w →
      (∀ k a, x' ≠ .int k a) → (∀ s, x' ≠ .string s) → (∀ k b, x' ≠ .float k b) → (∀ k b c, x' ≠ .complex k b c) → g b = some out →
      (∀ op, (eqGuard op t xo yo x' y').run P w = .ok () w) →
      ∃ b, g b = some out ∧ (∀ op, (eqGuard op t xo yo x' y').run P w = .ok () w) ∧
      (binOp .eql t x' y').run P w = .ok (.bool b) w ∧ (binOp .neq t x' y').run P w = .ok (.bool (!b)) w := fun {b} he n1 n2 n3 n4 hg g1 => by
    refine ⟨b, hg, g1, ?_, ?_⟩
    · cases x' <;> first
        | (exact absurd rfl (n1 _ _))
        | (exact absurd rfl (n2 _))
        | (exact absurd rfl (n3 _ _))
        | (exact absurd rfl (n4 _ _ _))
        | (simp only [binOp, equal_step, Sem.run_bind, he, Result.andThen_ok, Sem.run_pure])
    · cases x' <;> first
        | (exact absurd rfl (n1 _ _))
        | (exact absurd rfl (n2 _))
        | (exact absurd rfl (n3 _ _))
        | (exact absurd rfl (n4 _ _ _))
        | (simp only [binOp, equal_step, Sem.run_bind, he, Result.andThen_ok, Sem.run_pure])
  rw [max_succ] at fin
  have hkd : ∀ ts, kd ≠ .ifaceT ts := fun ts e => by
    subst e
    unfold eqKind at hk
    split at hk <;> (try split at hk) <;> cases hk
  have under : ∀ {k : EK}, kd = k → k ≠ .num → ∃ d, P.underlying t = some d ∧ (match k with
      | .bool => d = .bool | .ptr => ∃ e, d = .pointer e ∧ ∃ j, P.info? e = some j | .slice => ∃ e, d = .slice e | .func => ∃ a b c, d = .func a b c | .iface => ∃ m, d = .interface m | .num => False | .ifaceT _ => False) := fun {k} hkk hn => by
    subst hkk
    unfold eqKind at hk
    split at hk <;> (try split at hk) <;> cases hk <;> first
      | exact absurd rfl hn
      | exact ⟨_, by assumption, rfl⟩
      | exact ⟨_, by assumption, _, rfl⟩
      | exact ⟨_, by assumption, _, _, _, rfl⟩
      | exact ⟨_, by assumption, _, rfl, _, by assumption⟩
  generalize 9999 = mx at fin
  unfold eqV at hx
  cases x with
  | int k a =>
    dsimp only at hx
    split at hx
    · rename_i k' b
      split at hx
      · rename_i hkk
        have : k = k' := by simpa using hkk
        subst this
        rw [ieq_eq] at hx
        rw [h1.inv_int, h2.inv_int]
        exact ⟨_, hx, fun op => guard_ok op t xo yo _ _ (by simp) (by simp), by simp [binOp, Op.intCmp], by simp [binOp, Op.intCmp, bne]⟩
      · cases hx
    · cases hx
  | string a =>
    dsimp only at hx
    split at hx
    · rw [strEq_eq] at hx
      rw [h1.inv_str, h2.inv_str]
      exact ⟨_, hx, fun op => guard_ok op t xo yo _ _ (by simp) (by simp), by simp [binOp, Op.stringOp], by simp [binOp, Op.stringOp]⟩
    · cases hx
  | bool a =>
    dsimp only at hx
    split at hx
    · split at hx
      · obtain ⟨d, hu, rfl⟩ := under rfl (by simp)
        have e1 := h1.inv_bool; have e2 := h2.inv_bool
        subst e1 e2
        exact fin (in_bool hu _ _) (by simp) (by simp) (by simp) (by simp) hx fun op => guard_ok op t xo yo _ _ (by simp) (by simp)
      · cases hx
    · cases hx
  | nilIface =>
    dsimp only at hx
    split at hx
    · obtain ⟨d, hu, m, rfl⟩ := under rfl (by simp)
      have hcc := hc rfl
      split at hx
      · cases h1; cases h2
        exact fin (in_iface1 hu) (by simp) (by simp) (by simp) (by simp) hx fun op => guard_nil op t xo yo hcc
      · cases h1; cases h2
        exact fin (in_iface2 hu _ _) (by simp) (by simp) (by simp) (by simp) hx fun op => guard_ok op t xo yo _ _ (by simp) (by simp)
      · cases hx
    · exact absurd rfl (hkd _)
    · cases hx
  | iface u v =>
    dsimp only at hx
    split at hx
    · obtain ⟨d, hu, m, rfl⟩ := under rfl (by simp)
      split at hx
      · cases h1; cases h2
        exact fin (in_iface3 hu _ _) (by simp) (by simp) (by simp) (by simp) hx fun op => guard_ok op t xo yo _ _ (by simp) (by simp)
      · cases hx
    · exact absurd rfl (hkd _)
    · cases hx
  | slice a n c =>
    dsimp only at hx
    split at hx
    · obtain ⟨d, hu, m, rfl⟩ := under rfl (by simp)
      split at hx
      · cases h2
        cases h1 <;> exact fin (in_slice hu _ _ _ _ _) (by simp) (by simp) (by simp) (by simp) hx fun op => guard_ok op t xo yo _ _ (by simp) (by simp)
      · cases hx
    · cases hx
  | pointer a =>
    dsimp only at hx
    split at hx
    · obtain ⟨d, hu, m, rfl, ji, hji⟩ := under rfl (by simp)
      split at hx
      · rename_i b
        cases b with
        | none =>
          dsimp only at hx
          cases h2
          cases h1 <;> exact fin (in_ptr hu _) (by simp) (by simp) (by simp) (by simp) hx fun op => guard_ok op t xo yo _ _ (by simp) (by simp)
        | some q =>
          dsimp only at hx
          cases a with
          | none => cases hx
          | some p =>
            dsimp only at hx
            split at hx
            · rename_i hpq
              simp only [Bool.and_eq_true] at hpq
              obtain ⟨⟨⟨g1, g2⟩, e3⟩, e4⟩ := hpq
              rw [beq_true] at g1 g2
              obtain ⟨b1, o1, s1⟩ := p
              obtain ⟨b2, o2, s2⟩ := q
              simp only at g1 g2 e3 e4
              subst g1 g2
              cases s1 <;> simp at e3
              cases s2 <;> simp at e4
              obtain ⟨pl, h3, _, rfl⟩ := h1.inv_ptr
              obtain ⟨pl2, h4, _, rfl⟩ := h2.inv_ptr
              rw [h3] at h4; cases h4
              exact fin (in_ptr_same hu hji _) (by simp) (by simp) (by simp) (by simp) hx fun op => guard_ok op t xo yo _ _ (by simp) (by simp)
            · cases hx
      · cases hx
    · cases hx
  | nilFunc =>
    dsimp only at hx
    split at hx
    · obtain ⟨d, hu, a, b, c, rfl⟩ := under rfl (by simp)
      split at hx
      · cases h1; cases h2
        exact fin (in_func1 hu) (by simp) (by simp) (by simp) (by simp) hx fun op => guard_ok op t xo yo _ _ (by simp) (by simp)
      · cases hx
    · cases hx
  | func x y z =>
    dsimp only at hx
    split at hx
    · obtain ⟨d, hu, a, b, c, rfl⟩ := under rfl (by simp)
      split at hx
      · cases h2
        cases h1 <;> exact fin (in_func2 hu _ _ _) (by simp) (by simp) (by simp) (by simp) hx fun op => guard_ok op t xo yo _ _ (by simp) (by simp)
      · cases hx
    · cases hx
  | _ => dsimp only at hx; (try split at hx) <;> cases hx
theorem inTs_mem {t : Nat} {ts : List Nat} (h : inTs t ts = true) : t ∈ ts := by
  induction ts with
  | nil => cases h
  | cons u r ih =>
    have h : (Bool.rec (inTs t r) true (Nat.beq t u) : Bool) = true := h
    cases hu : Nat.beq t u with
    | true => rw [beq_true.1 hu]; exact List.mem_cons_self
    | false => rw [hu] at h; exact List.mem_cons_of_mem _ (ih h)
theorem in_iface4 {m} (hu : P.underlying t = some (.interface m)) {u u'} (hn : u ≠ u') (v v') : (Op.equalIn (d + 1) t (.iface u v) (.iface u' v')).run P w = .ok false w := by
  simp [Op.equalIn, run_underlying hu, hn]
theorem in_iface5 {m} (hu : P.underlying t = some (.interface m)) {u} {i : TypeInfo} {k0 : IntKind} (hi : P.info? u = some i) (hc : i.comparable = true) (hk : P.underlying u = some (.int k0)) (k : IntKind) (a b : Int) :
    (Op.equalIn (d + 2) t (.iface u (.int k a)) (.iface u (.int k b))).run P w = .ok (a == b) w := by
  simp [Op.equalIn, run_underlying hu, run_underlying hk, typeInfo, hi, hc]
/-- interfaces compared, neither a literal -/
theorem eqVT_sound {ts : List Nat} {g : Bool → R} {x y x' y' : Value} {xo yo : Operand} (hk : eqKind P t = some .iface) (hts : ∀ u ∈ ts, ∃ k i, P.underlying u = some (.int k) ∧ P.info? u = some i ∧ i.comparable = true)
    (h1 : VRel φ x x') (h2 : VRel φ y y') (hx : eqV (.ifaceT ts) x y g = some out) :
    ∃ b, g b = some out ∧ (∀ op, (eqGuard op t xo yo x' y').run P w = .ok () w) ∧
      (binOp .eql t x' y').run P w = .ok (.bool b) w ∧ (binOp .neq t x' y').run P w = .ok (.bool (!b)) w := by
  have fin : ∀ {b : Bool}, (Op.equalIn Op.maxDepth t x' y').run P w = .ok b w →
      (∀ k a, x' ≠ .int k a) → (∀ s, x' ≠ .string s) → (∀ k b, x' ≠ .float k b) → (∀ k b c, x' ≠ .complex k b c) → g b = some out →
      (∀ op, (eqGuard op t xo yo x' y').run P w = .ok () w) →
      ∃ b, g b = some out ∧ (∀ op, (eqGuard op t xo yo x' y').run P w = .ok () w) ∧
      (binOp .eql t x' y').run P w = .ok (.bool b) w ∧ (binOp .neq t x' y').run P w = .ok (.bool (!b)) w := fun {b} he n1 n2 n3 n4 hg g1 => by
    refine ⟨b, hg, g1, ?_, ?_⟩
    · cases x' <;> first
        | (exact absurd rfl (n1 _ _))
        | (exact absurd rfl (n2 _))
        | (exact absurd rfl (n3 _ _))
        | (exact absurd rfl (n4 _ _ _))
        | (simp only [binOp, equal_step, Sem.run_bind, he, Result.andThen_ok, Sem.run_pure])
    · cases x' <;> first
        | (exact absurd rfl (n1 _ _))
        | (exact absurd rfl (n2 _))
        | (exact absurd rfl (n3 _ _))
        | (exact absurd rfl (n4 _ _ _))
        | (simp only [binOp, equal_step, Sem.run_bind, he, Result.andThen_ok, Sem.run_pure])
  rw [show Op.maxDepth = 9998 + 2 from rfl] at fin
  generalize 9998 = mx at fin
  obtain ⟨m, hu⟩ : ∃ m, P.underlying t = some (.interface m) := by
    unfold eqKind at hk
    split at hk <;> (try split at hk) <;> cases hk
    exact ⟨_, by assumption⟩
  unfold eqV at hx
  cases x with
  | nilIface =>
    dsimp only at hx
    split at hx
    · cases h1; cases h2
      exact fin (in_iface2 hu _ _) (by simp) (by simp) (by simp) (by simp) hx fun op => guard_ok op t xo yo _ _ (by simp) (by simp)
    · cases hx
  | iface u v =>
    dsimp only at hx
    split at hx
    · cases h1; cases h2
      exact fin (in_iface3 hu _ _) (by simp) (by simp) (by simp) (by simp) hx fun op => guard_ok op t xo yo _ _ (by simp) (by simp)
    · rename_i u' b
      split at hx
      · rename_i hb
        cases h1; cases h2
        exact fin (in_iface4 hu (fun e => by rw [beq_true.2 e] at hb; cases hb) _ _) (by simp) (by simp) (by simp) (by simp) hx fun op => guard_ok op t xo yo _ _ (by simp) (by simp)
      · rename_i hb
        have := beq_true.1 hb
        subst this
        split at hx <;> try (cases hx; done)
        rename_i hin
        obtain ⟨k0, i, q1, q2, q3⟩ := hts _ (inTs_mem hin)
        split at hx <;> try (cases hx; done)
        rename_i k a
        split at hx <;> try (cases hx; done)
        rename_i k' b'
        split at hx <;> try (cases hx; done)
        rename_i hkk
        have : k = k' := by simpa using hkk
        subst this
        rw [ieq_eq] at hx
        cases h1 with | iface _ h1 => cases h2 with | iface _ h2 =>
          rw [h1.inv_int, h2.inv_int] at *
          exact fin (in_iface5 hu q2 q3 q1 _ _ _) (by simp) (by simp) (by simp) (by simp) hx fun op => guard_ok op t xo yo _ _ (by simp) (by simp)
    · cases hx
  | int k a =>
    dsimp only at hx
    split at hx
    · rename_i k' b
      split at hx
      · rename_i hkk
        have : k = k' := by simpa using hkk
        subst this
        rw [ieq_eq] at hx
        rw [h1.inv_int, h2.inv_int]
        exact ⟨_, hx, fun op => guard_ok op t xo yo _ _ (by simp) (by simp), by simp [binOp, Op.intCmp], by simp [binOp, Op.intCmp, bne]⟩
      · cases hx
    · cases hx
  | string a =>
    dsimp only at hx
    split at hx
    · rw [strEq_eq] at hx
      rw [h1.inv_str, h2.inv_str]
      exact ⟨_, hx, fun op => guard_ok op t xo yo _ _ (by simp) (by simp), by simp [binOp, Op.stringOp], by simp [binOp, Op.stringOp]⟩
    · cases hx
  | bool a => dsimp only at hx; split at hx <;> cases hx
  | _ => dsimp only at hx; (try split at hx) <;> cases hx
end
end
end Go.Ev

namespace Go.Ev
open Go
noncomputable section

section
variable {P : Program} {LB : LBody} {φ : Phi} {h : H} {w : World} {f : Value → R} {out : Value}

theorem fieldAddr_sound {s : TypeId} {n : Nat} {fs : Array Field} {fl : Field} {i : TypeInfo} {x x' : Value} (hu : P.underlying s = some (.struct fs)) (hf : fs[n]? = some fl) (hi : P.info? fl.type = some i) (hz : i.size ≠ 0)
    (hv : VRel φ x x') (hx : fieldAddr fl.offset x f = some out) : ∃ v v', f v = some out ∧ VRel φ v v' ∧ (Instr.fieldAt s x' n).run P w = .ok v' w := by
  unfold fieldAddr at hx
  obtain ⟨b, off, rfl, hx⟩ := addr_inv hx
  obtain ⟨p, h1, _, rfl⟩ := hv.inv_ptr
  refine ⟨_, _, hx, .ptr h1, ?_⟩
  simp only [Instr.fieldAt, Sem.run_bind, run_underlying hu, Result.andThen_ok, hf, Instr.sureAddr, Sem.run_pure, fieldPlace, run_sizeOf hi]
  rw [if_neg hz]
  simp only [Sem.run_pure, Result.andThen_ok, add_none]
  rw [show off + p.s + fl.offset = Nat.add off fl.offset + p.s by show _ = off + fl.offset + p.s; omega]
theorem field_sound {s : TypeId} {n : Nat} {fs : Array Field} {fl : Field} {m : Option Nat} {x x' : Value} (hu : P.underlying s = some (.struct fs)) (hf : fs[n]? = some fl) (hd : szAgg P fl.type = some m)
    (hv : VRel φ x x') (hx : field fl.offset m x f = some out) : ∃ v v', f v = some out ∧ VRel φ v v' ∧ (Instr.field s x' n).run P w = .ok v' w := by
  unfold field at hx
  split at hx
  · rename_i cs
    obtain ⟨cs', rfl, hl⟩ := hv.inv_agg
    obtain ⟨v, v', h1, h2, h3⟩ := part_sound (w := w) hd hl hx
    refine ⟨v, v', h1, h2, ?_⟩
    simp only [Instr.field, Sem.run_bind, run_underlying hu, Result.andThen_ok, hf, asAgg, Sem.run_pure]
    exact h3
  · cases hx
theorem idxAddrA_sound {t e : TypeId} {n : Nat} {i : TypeInfo} {x x' y y' : Value} (hu : P.underlying t = some (.array n e)) (hi : P.info? e = some i)
    (hv : VRel φ x x') (hy : VRel φ y y') (hx : idxAddrA n i.size x y f = some out) : ∃ v v', f v = some out ∧ VRel φ v v' ∧ (Instr.indexAt t x' y').run P w = .ok v' w := by
  unfold idxAddrA at hx
  obtain ⟨b, off, rfl, hx⟩ := addr_inv hx
  obtain ⟨k, j, rfl, hj, hx⟩ := idxN_inv hx
  obtain ⟨p, h1, _, rfl⟩ := hv.inv_ptr
  rw [hy.inv_int]
  refine ⟨_, _, hx, .ptr h1, ?_⟩
  have hb : (0 : Int) ≤ (j : Nat) ∧ ((j : Nat) : Int) < n := by omega
  simp only [Instr.indexAt, asIntOf, Sem.run_bind, Sem.run_pure, run_underlying hu, Result.andThen_ok, Instr.sureAddr, if_pos hb, run_sizeOf hi, add_none, Int.toNat_natCast]
  rw [show off + p.s + j * i.size = Nat.add off (Nat.mul j i.size) + p.s by show _ = off + j * i.size + p.s; omega]
theorem idxAddrS_sound {t e : TypeId} {i : TypeInfo} {x x' y y' : Value} (hu : P.underlying t = some (.slice e)) (hi : P.info? e = some i)
    (hv : VRel φ x x') (hy : VRel φ y y') (hx : idxAddrS i.size x y f = some out) : ∃ v v', f v = some out ∧ VRel φ v v' ∧ (Instr.indexAt t x' y').run P w = .ok v' w := by
  unfold idxAddrS sliceParts baseOf at hx
  split at hx
  · rename_i a n c
    dsimp only at hx
    split at hx
    · rename_i a
      split at hx
      · rename_i hs
        obtain ⟨b, off, sp⟩ := a
        simp only at hs; subst hs
        obtain ⟨k, j, rfl, hj, hx⟩ := idxN_inv hx
        rw [hy.inv_int]
        have hb : (0 : Int) ≤ (j : Nat) ∧ ((j : Nat) : Int) < n := by omega
        cases hv with
        | sl h1 hc hn =>
          rename_i p
          refine ⟨_, _, hx, .ptr h1, ?_⟩
          simp only [Instr.indexAt, asIntOf, Sem.run_bind, Sem.run_pure, run_underlying hu, Result.andThen_ok, if_pos hb, run_sizeOf hi, add_none, Int.toNat_natCast]
          rw [show off + p.s + j * i.size = Nat.add off (Nat.mul j i.size) + p.s by show _ = off + j * i.size + p.s; omega]
        | sl0 h1 h0 hc => omega
      · cases hx
    · cases hx
  · cases hx
theorem idxA_sound {t e : TypeId} {n : Nat} {i : TypeInfo} {m : Option Nat} {x x' y y' : Value} (hu : P.underlying t = some (.array n e)) (hi : P.info? e = some i) (hd : szAgg P e = some m)
    (hv : VRel φ x x') (hy : VRel φ y y') (hx : idxA n i.size m x y f = some out) : ∃ v v', f v = some out ∧ VRel φ v v' ∧ (Instr.index t x' y').run P w = .ok v' w := by
  unfold idxA at hx
  split at hx
  · rename_i cs
    obtain ⟨k, j, rfl, hj, hx⟩ := idxN_inv hx
    obtain ⟨cs', rfl, hl⟩ := hv.inv_agg
    obtain ⟨v, v', h1, h2, h3⟩ := part_sound (w := w) hd hl hx
    rw [hy.inv_int]
    refine ⟨v, v', h1, h2, ?_⟩
    have hb : (0 : Int) ≤ (j : Nat) ∧ ((j : Nat) : Int) < n := by omega
    simp only [Instr.index, asIntOf, Sem.run_bind, Sem.run_pure, run_underlying hu, Result.andThen_ok, if_pos hb, run_sizeOf hi, Int.toNat_natCast]
    exact h3
  · cases hx
theorem idxStr_sound {t : TypeId} {x x' y y' : Value} (hu : P.underlying t = some .string)
    (hv : VRel φ x x') (hy : VRel φ y y') (hx : idxStr x y f = some out) : ∃ v v', f v = some out ∧ VRel φ v v' ∧ (Instr.index t x' y').run P w = .ok v' w := by
  unfold idxStr at hx
  split at hx
  · rename_i s
    obtain ⟨k, j, rfl, hj, hx⟩ := idxN_inv hx
    split at hx
    · rename_i c hc
      rw [hv.inv_str, hy.inv_int]
      refine ⟨_, _, hx, .int _ _, ?_⟩
      have hs : s[j]? = some c := by
        rw [getElem?_pos s j hj]
        have hj' : j < s.data.size := hj
        have e : s.data[j] = c := by
          rw [List.getElem?_eq_getElem (by simpa using hj')] at hc
          simpa using hc
        exact congrArg some e
      simp only [Instr.index, asIntOf, Sem.run_bind, Sem.run_pure, run_underlying hu, Result.andThen_ok, Int.toNat_natCast]
      rw [if_pos (by omega), hs]
      rfl
    · cases hx
  · cases hx
theorem lenS_sound {t : TypeId} {rt : TypeId} {x x' : Value} (hu : P.underlying t = some .string) (hv : VRel φ x x') (hx : lenS x f = some out) : ∃ v v', f v = some out ∧ VRel φ v v' ∧ (Builtin.len_ #[t] rt #[x']).run P w = .ok v' w := by
  unfold lenS at hx
  split at hx
  · rename_i s
    rw [hv.inv_str]
    exact ⟨_, _, hx, .int _ _, by simp [Builtin.len_, run_underlying hu, goInt]⟩
  · cases hx
theorem lenL_sound {t e : TypeId} {rt : TypeId} {x x' : Value} (hu : P.underlying t = some (.slice e)) (hv : VRel φ x x') (hx : lenL x f = some out) : ∃ v v', f v = some out ∧ VRel φ v v' ∧ (Builtin.len_ #[t] rt #[x']).run P w = .ok v' w := by
  unfold lenL at hx
  split at hx
  · cases hv <;> exact ⟨_, _, hx, .int _ _, by simp [Builtin.len_, run_underlying hu, goInt]⟩
  · cases hx
theorem extract_sound {n : Nat} {x x' : Value} (hv : VRel φ x x') (hx : extract x n f = some out) : ∃ v v', f v = some out ∧ VRel φ v v' ∧ (Instr.extract x' n).run P w = .ok v' w := by
  unfold extract at hx
  split at hx
  · rename_i vs
    obtain ⟨vs', rfl, hl⟩ := hv.inv_tuple
    split at hx
    · rename_i v hvv
      obtain ⟨v', h1, h2⟩ := hl.at hvv
      refine ⟨v, v', hx, h2, ?_⟩
      have : vs'[n]? = some v' := by simpa using h1
      simp [Instr.extract, this]
    · cases hx
  · cases hx
theorem convI_sound {s d : TypeId} {ds : TypeDesc} {k : IntKind} {x x' : Value} (hs : P.underlying s = some ds) (hd : P.underlying d = some (.int k)) (hv : VRel φ x x') (hx : convI k x f = some out) :
    ∃ v v', f v = some out ∧ VRel φ v v' ∧ (convert s d x').run P w = .ok v' w := by
  unfold convI at hx
  split at hx
  · rename_i k' a
    rw [retI_eq, wrapW_eq] at hx
    rw [hv.inv_int]
    exact ⟨_, _, hx, .int _ _, by simp [convert, run_underlying hs, run_underlying hd, Conv.intToInt]⟩
  · cases hx
theorem convS_sound {s d : TypeId} {ds : TypeDesc} {x x' : Value} (hs : P.underlying s = some ds) (hd : P.underlying d = some .string) (hv : VRel φ x x') (hx : convS x f = some out) :
    ∃ v v', f v = some out ∧ VRel φ v v' ∧ (convert s d x').run P w = .ok v' w := by
  unfold convS at hx
  split at hx
  · rename_i a
    rw [hv.inv_str]
    exact ⟨_, _, hx, .str _, by simp [convert, run_underlying hs, run_underlying hd]⟩
  · cases hx
theorem mkIface_sound {t : TypeId} {d : TypeDesc} {x x' : Value} (hu : P.underlying t = some d) (hd : ∀ m, d ≠ .interface m) (hv : VRel φ x x') (hx : mkIface t x f = some out) :
    ∃ v v', f v = some out ∧ VRel φ v v' ∧ (Instr.makeInterface t x').run P w = .ok v' w := by
  have : ∃ hf : f (.iface t x) = some out, True := by
    unfold mkIface at hx
    split at hx
    · cases hx
    · exact ⟨hx, trivial⟩
  obtain ⟨hf, _⟩ := this
  refine ⟨_, _, hf, .iface t hv, ?_⟩
  simp only [Instr.makeInterface, Sem.run_bind, run_underlying hu, Result.andThen_ok]
  cases d <;> first
    | rfl
    | exact absurd rfl (hd _)
theorem max2_sound {a b a' b' : Value} (h1 : VRel φ a a') (h2 : VRel φ b b') (hx : max2 a b f = some out) : ∃ v, f v = some out ∧ VRel φ v v ∧ (Builtin.max2 a' b').run P w = .ok v w := by
  unfold max2 at hx
  split at hx
  · rename_i k x
    split at hx
    · rename_i k' y
      rw [h1.inv_int, h2.inv_int]
      split at hx
      · rename_i hl
        rw [ilt_eq] at hl
        exact ⟨_, hx, .int _ _, by simp [Builtin.max2, of_decide_eq_true hl]⟩
      · rename_i hl
        rw [ilt_eq] at hl
        exact ⟨_, hx, .int _ _, by simp only [Builtin.max2, gt_iff_lt, if_neg (of_decide_eq_false hl), Sem.run_pure]⟩
    · cases hx
  · cases hx
theorem min2_sound {a b a' b' : Value} (h1 : VRel φ a a') (h2 : VRel φ b b') (hx : min2 a b f = some out) : ∃ v, f v = some out ∧ VRel φ v v ∧ (Builtin.min2 a' b').run P w = .ok v w := by
  unfold min2 at hx
  split at hx
  · rename_i k x
    split at hx
    · rename_i k' y
      rw [h1.inv_int, h2.inv_int]
      split at hx
      · rename_i hl
        rw [ilt_eq] at hl
        exact ⟨_, hx, .int _ _, by simp [Builtin.min2, of_decide_eq_true hl]⟩
      · rename_i hl
        rw [ilt_eq] at hl
        exact ⟨_, hx, .int _ _, by simp only [Builtin.min2, if_neg (of_decide_eq_false hl), Sem.run_pure]⟩
    · cases hx
  · cases hx
theorem fold_sound {g : Value → Value → (Value → R) → R} {g' : Value → Value → Sem Value}
    (hg : ∀ (k : Value → R) a b a' b', VRel φ a a' → VRel φ b b' → g a b k = some out → ∃ v, k v = some out ∧ VRel φ v v ∧ (g' a' b').run P w = .ok v w) :
    ∀ (l l' : List Value) (a a' : Value), LRel φ l l' → VRel φ a a' → foldK g l a f = some out → ∃ v v', f v = some out ∧ VRel φ v v' ∧ (l'.foldlM g' a').run P w = .ok v' w := by
  intro l
  induction l with
  | nil =>
    intro l' a a' hl ha hx
    rw [hl.of_nil]
    exact ⟨a, a', hx, ha, by simp⟩
  | cons x r ih =>
    intro l' a a' hl ha hx
    obtain ⟨x', r', rfl, hx', hr⟩ := hl.uncons
    obtain ⟨v, h1, h2, h3⟩ := hg _ _ _ _ _ ha hx' hx
    obtain ⟨u, u', h4, h5, h6⟩ := ih r' v v hr h2 h1
    exact ⟨u, u', h4, h5, by simp only [List.foldlM_cons, Sem.run_bind, h3, Result.andThen_ok, h6]⟩
theorem typeAssert_sound {xt t : TypeId} {d : TypeDesc} {i : TypeInfo} {z : Value} {ok : Bool} {x x' : Value} (hu : P.underlying t = some d) (hd : ∀ m, d ≠ .interface m) (hi : P.info? t = some i) (hz : i.zero = some z) (hp : plainV z = true)
    (hv : VRel φ x x') (hx : typeAssert t z ok x f = some out) : ∃ v v', f v = some out ∧ VRel φ v v' ∧ (Instr.typeAssert x' xt t ok).run P w = .ok v' w := by
  have tup : ∀ {a a' : Value} (b : Bool), VRel φ a a' → VRel φ (.tuple #[a, .bool b]) (.tuple #[a', .bool b]) := fun b ha => VRel.tuple' (LRel.cons ha (LRel.cons (.bool b) (LRel.nil φ)))
  unfold typeAssert at hx
  split at hx
  · rename_i t' v
    cases hv with
    | iface _ hv =>
      rename_i v'
      split at hx
      · rename_i ht
        have ht : t' = t := beq_true.1 ht
        subst ht
        split at hx
        · refine ⟨_, _, hx, tup true hv, ?_⟩
          simp only [Instr.typeAssert, Sem.run_bind, run_underlying hu, Result.andThen_ok]
          cases d <;> first
            | (exact absurd rfl (hd _))
            | simp
        · refine ⟨_, _, hx, hv, ?_⟩
          simp only [Instr.typeAssert, Sem.run_bind, run_underlying hu, Result.andThen_ok]
          cases d <;> first
            | (exact absurd rfl (hd _))
            | simp
      · rename_i ht
        have ht : ¬ t' = t := fun e => by subst e; rw [show Nat.beq t' t' = true from beq_true.2 rfl] at ht; cases ht
        split at hx
        · refine ⟨_, _, hx, tup false (plainV_rel φ hp), ?_⟩
          simp only [Instr.typeAssert, Sem.run_bind, run_underlying hu, Result.andThen_ok]
          cases d <;> first
            | (exact absurd rfl (hd _))
            | simp [ht, run_zeroValue hi hz]
        · cases hx
  · split at hx
    · cases hv
      refine ⟨_, _, hx, tup false (plainV_rel φ hp), ?_⟩
      simp only [Instr.typeAssert, Sem.run_bind, run_underlying hu, Result.andThen_ok]
      cases d <;> first
        | (exact absurd rfl (hd _))
        | simp [run_zeroValue hi hz]
    · cases hx
  · cases hx
end
end
end Go.Ev

namespace Go.Ev
open Go
noncomputable section

def ORel (φ : Phi) : Option Value → Option Value → Prop
  | none, none => True
  | some u, some u' => VRel φ u u'
  | _, _ => False

section
variable {P : Program} {LB : LBody} {φ : Phi} {h : H} {w : World} {f : Value → R} {out : Value}

theorem bnd_inv {most d : Nat} {x : Option Value} {g : Nat → R} (hx : bnd most x d g = some out) : (x = none ∧ g d = some out) ∨ ∃ k n, x = some (.int k ((n : Nat) : Int)) ∧ n ≤ most ∧ g n = some out := by
  unfold bnd at hx
  split at hx
  · exact .inl ⟨rfl, hx⟩
  · split at hx
    · rename_i k n
      split at hx
      · rename_i hn; exact .inr ⟨k, n, rfl, ble_iff.1 hn, hx⟩
      · cases hx
    · cases hx
theorem run_sliceBound {k : IntKind} {n y : Nat} (code : BoundsCode) (hn : n ≤ y) : (Instr.sliceBound (.int k ((n : Nat) : Int)) y code).run P w = .ok n w := by
  simp only [Instr.sliceBound, asIntOf, Sem.run_bind, Sem.run_pure, Result.andThen_ok]
  rw [if_pos (by omega)]
  simp
theorem orel_int {φ : Phi} {k : IntKind} {n : Int} {y : Option Value} (h : ORel φ (some (.int k n)) y) : y = some (.int k n) := by
  cases y with
  | none => exact h.elim
  | some v => rw [VRel.inv_int h]
theorem orel_none {φ : Phi} {y : Option Value} (h : ORel φ none y) : y = none := by
  cases y with
  | none => rfl
  | some v => exact h.elim
theorem bnds_sound {len cap cap' : Nat} {isS : Bool} {lo hi mx lo' hi' mx' : Option Value} {g : Nat → Nat → Nat → R} (hcap : cap ≤ cap') (hlen : len ≤ cap)
    (h1 : ORel φ lo lo') (h2 : ORel φ hi hi') (h3 : ORel φ mx mx') (hm : mx ≠ none → hi ≠ none) (hx : bnds len cap lo hi mx g = some out) :
    ∃ l h m m', g l h m = some out ∧ l ≤ h ∧ h ≤ m ∧ m ≤ cap ∧ (mx = none → m = cap ∧ m' = cap') ∧ (mx ≠ none → m' = m) ∧ (Instr.sliceBounds isS len cap' lo' hi' mx').run P w = .ok (l, h, m') w := by
  unfold bnds at hx
  rcases bnd_inv hx with ⟨rfl, hx1⟩ | ⟨k, m, rfl, hmc, hx1⟩
  · rw [orel_none h3]
    rcases bnd_inv hx1 with ⟨rfl, hx2⟩ | ⟨k2, hh, rfl, hhc, hx2⟩
    · rw [orel_none h2]
      rcases bnd_inv hx2 with ⟨rfl, hx3⟩ | ⟨k3, l, rfl, hlc, hx3⟩
      · rw [orel_none h1]
        exact ⟨0, len, cap, cap', hx3, by omega, by omega, by omega, fun _ => ⟨rfl, rfl⟩, fun e => absurd rfl e, by simp [Instr.sliceBounds]⟩
      · rw [orel_int h1]
        exact ⟨l, len, cap, cap', hx3, hlc, by omega, by omega, fun _ => ⟨rfl, rfl⟩, fun e => absurd rfl e, by simp [Instr.sliceBounds, run_sliceBound _ hlc]⟩
    · rw [orel_int h2]
      have hle : hh ≤ cap' := by omega
      rcases bnd_inv hx2 with ⟨rfl, hx3⟩ | ⟨k3, l, rfl, hlc, hx3⟩
      · rw [orel_none h1]
        exact ⟨0, hh, cap, cap', hx3, by omega, by omega, by omega, fun _ => ⟨rfl, rfl⟩, fun e => absurd rfl e, by simp [Instr.sliceBounds, run_sliceBound _ hle]⟩
      · rw [orel_int h1]
        exact ⟨l, hh, cap, cap', hx3, hlc, by omega, by omega, fun _ => ⟨rfl, rfl⟩, fun e => absurd rfl e, by simp [Instr.sliceBounds, run_sliceBound _ hle, run_sliceBound _ hlc]⟩
  · rw [orel_int h3]
    have hle' : m ≤ cap' := by omega
    rcases bnd_inv hx1 with ⟨rfl, hx2⟩ | ⟨k2, hh, rfl, hhc, hx2⟩
    · exact absurd rfl (hm (by simp))
    · rw [orel_int h2]
      rcases bnd_inv hx2 with ⟨rfl, hx3⟩ | ⟨k3, l, rfl, hlc, hx3⟩
      · rw [orel_none h1]
        exact ⟨0, hh, m, m, hx3, by omega, by omega, by omega, fun e => (by cases e), fun e => rfl, by simp [Instr.sliceBounds, run_sliceBound _ hle', run_sliceBound _ hhc]⟩
      · rw [orel_int h1]
        exact ⟨l, hh, m, m, hx3, hlc, by omega, by omega, fun e => (by cases e), fun e => rfl, by simp [Instr.sliceBounds, run_sliceBound _ hle', run_sliceBound _ hhc, run_sliceBound _ hlc]⟩

theorem extract_bytes (s : ByteArray) (l h : Nat) : (⟨((s.data.toList.drop l).take (Nat.sub h l)).toArray⟩ : ByteArray) = s.extract l h := by
  apply ByteArray.ext
  rw [ByteArray.data_extract]
  apply Array.ext'
  simp [List.take_drop]

theorem sliceStr_sound {t : TypeId} {x x' : Value} {lo hi lo' hi' : Option Value} (hu : P.underlying t = some .string) (hv : VRel φ x x') (h1 : ORel φ lo lo') (h2 : ORel φ hi hi')
    (hx : sliceStr x lo hi f = some out) : ∃ v v', f v = some out ∧ VRel φ v v' ∧ (Instr.sliceAt t x' lo' hi' none).run P w = .ok v' w := by
  unfold sliceStr at hx
  split at hx
  · rename_i s
    obtain ⟨l, hh, m, m', hg, _, _, _, _, _, hr⟩ := bnds_sound (P := P) (w := w) (isS := false) (cap' := s.size) (Nat.le_refl _) (Nat.le_refl _) h1 h2 (mx := none) (mx' := none) trivial (fun e => absurd rfl e) hx
    rw [hv.inv_str]
    rw [extract_bytes] at hg
    refine ⟨_, _, hg, .str _, ?_⟩
    simp only [Instr.sliceAt, Instr.slice, Sem.run_bind, run_underlying hu, Result.andThen_ok, Option.isSome_none, Bool.false_eq_true, if_false, hr, Sem.run_pure]
  · cases hx
/-- the slice of a row whose capacity is known -/
theorem subSl_rel {b off size l hh m : Nat} {p : Pl} {off' : Nat} (h1 : φ b = some p) (hlh : l ≤ hh) (hhm : hh ≤ m) (ho : m ≠ l → off' = off + p.s) :
    VRel φ (subSl size b off l hh m) (.slice (some (if m = l then ⟨p.b, off', none⟩ else (⟨p.b, off', none⟩ : Addr).add (l * size))) (hh - l) (m - l)) := by
  unfold subSl
  by_cases e : m = l
  · subst e
    rw [show Nat.beq m m = true from beq_true.2 rfl, if_pos rfl]
    have : hh = m := by omega
    subst this
    simp only [Nat.sub_self]
    rw [show Nat.sub hh hh = 0 from Nat.sub_self hh]
    exact .sl0 h1 (.inl rfl) (.inl ⟨rfl, rfl⟩)
  · have hb : Nat.beq m l = false := by
      cases hb : Nat.beq m l with
      | true => exact absurd (beq_true.1 hb) e
      | false => rfl
    rw [hb, if_neg e, ho e, add_none]
    have := VRel.sl (φ := φ) (b := b) (off := off + l * size) (n := hh - l) (c := 2 * (m - l)) (cap := m - l) (p := p) h1 (.inl ⟨by omega, by omega⟩) (by omega)
    rw [show off + l * size + p.s = off + p.s + l * size by omega] at this
    exact this
theorem sliceArr_sound {t e : TypeId} {n : Nat} {i : TypeInfo} {x x' : Value} {lo hi mx lo' hi' mx' : Option Value} (hu : P.underlying t = some (.array n e)) (hin : P.info? e = some i) (hv : VRel φ x x')
    (h1 : ORel φ lo lo') (h2 : ORel φ hi hi') (h3 : ORel φ mx mx') (hm : mx ≠ none → hi ≠ none)
    (hx : sliceArr n i.size x lo hi mx f = some out) : ∃ v v', f v = some out ∧ VRel φ v v' ∧ (Instr.sliceAt t x' lo' hi' mx').run P w = .ok v' w := by
  unfold sliceArr at hx
  obtain ⟨b, off, rfl, hx1⟩ := addr_inv hx
  obtain ⟨p, hp, _, rfl⟩ := hv.inv_ptr
  obtain ⟨l, hh, m, m', hg, e1, e2, e3, e4, e5, hr⟩ := bnds_sound (P := P) (w := w) (isS := false) (cap' := n) (Nat.le_refl _) (Nat.le_refl _) h1 h2 h3 hm hx1
  have em : m' = m := by
    by_cases hmx : mx = none
    · obtain ⟨a, b⟩ := e4 hmx; omega
    · exact e5 hmx
  subst em
  refine ⟨_, _, hg, subSl_rel (off' := off + p.s) hp e1 e2 (fun _ => rfl), ?_⟩
  simp only [Instr.sliceAt, Sem.run_bind, run_underlying hu, Result.andThen_ok, Instr.sureAddr, Sem.run_pure, hr, run_sizeOf hin]
theorem sliceSl_sound {t e : TypeId} {i : TypeInfo} {x x' : Value} {lo hi mx lo' hi' mx' : Option Value} (hu : P.underlying t = some (.slice e)) (hin : P.info? e = some i) (hv : VRel φ x x')
    (h1 : ORel φ lo lo') (h2 : ORel φ hi hi') (h3 : ORel φ mx mx') (hm : mx ≠ none → hi ≠ none)
    (hx : sliceSl i.size x lo hi mx f = some out) : ∃ v v', f v = some out ∧ VRel φ v v' ∧ (Instr.sliceAt t x' lo' hi' mx').run P w = .ok v' w := by
  -- what the model does with a slice that lies somewhere
  have model : ∀ {A : Addr} {n cap l hh m' : Nat}, x' = .slice (some A) n cap → (Instr.sliceBounds true n cap lo' hi' mx').run P w = .ok (l, hh, m') w →
      (Instr.sliceAt t x' lo' hi' mx').run P w = .ok (.slice (some (if m' = l then A else A.add (l * i.size))) (hh - l) (m' - l)) w := fun {A n cap l hh m'} hx' hr => by
    subst hx'
    simp only [Instr.sliceAt, Instr.slice, Sem.run_bind, run_underlying hu, Result.andThen_ok, hr, run_sizeOf hin, Sem.run_pure]
    by_cases e : m' = l
    · simp [e]
    · simp [e]
  unfold sliceSl sliceParts at hx
  cases x <;> dsimp only at hx <;> try (cases hx; done)
  rename_i a n c
  cases a with
  | none =>
    dsimp only at hx
    cases hv
    obtain ⟨l, hh, m, m', hg, e1, e2, e3, e4, e5, hr⟩ := bnds_sound (P := P) (w := w) (isS := true) (cap' := 0) (Nat.le_refl _) (Nat.le_refl _) h1 h2 h3 hm hx
    have em : m' = m := by
      by_cases hmx : mx = none
      · obtain ⟨a, b⟩ := e4 hmx; omega
      · exact e5 hmx
    have : m = 0 := by omega
    subst this
    have : hh = 0 := by omega
    subst this
    have : l = 0 := by omega
    subst this
    subst em
    refine ⟨_, .slice none 0 0, hg, .nilS, ?_⟩
    simp only [Instr.sliceAt, Instr.slice, Sem.run_bind, run_underlying hu, Result.andThen_ok, hr, run_sizeOf hin, Sem.run_pure]
    simp
  | some a =>
    obtain ⟨b, off, sp⟩ := a
    dsimp only at hx
    cases sp with
    | some s => dsimp only at hx; cases hx
    | none =>
      dsimp only at hx
      -- what is known of the row
      have known : ∃ p off' cap, φ b = some p ∧ x' = .slice (some ⟨p.b, off', none⟩) n cap ∧ capOk c cap off' p.tot ∧ n ≤ cap ∧ (off' = off + p.s ∨ (n = 0 ∧ (c = 0 ∨ c % 2 = 1))) := by
        cases hv with
        | sl h1 hc hn => exact ⟨_, _, _, h1, rfl, hc, hn, .inl rfl⟩
        | sl0 h1 h0 hc => exact ⟨_, _, _, h1, rfl, hc, Nat.zero_le _, .inr ⟨rfl, h0⟩⟩
      obtain ⟨p, off', cap, hp, hx', hc, hn, ho⟩ := known
      split at hx
      · rename_i hev
        have hev : c % 2 = 0 := beq_true.1 hev
        have hcap : cap = c / 2 := by rcases hc with ⟨_, h⟩ | ⟨h, _⟩ <;> omega
        obtain ⟨l, hh, m, m', hg, e1, e2, e3, e4, e5, hr⟩ := bnds_sound (P := P) (w := w) (isS := true) (len := n) (cap := c / 2) (cap' := cap) (by omega) (by omega) h1 h2 h3 hm hx
        have em : m' = m := by
          by_cases hmx : mx = none
          · obtain ⟨a, b⟩ := e4 hmx; omega
          · exact e5 hmx
        subst em
        refine ⟨_, _, hg, subSl_rel (off' := off') hp e1 e2 (fun hne => ?_), model hx' hr⟩
        rcases ho with h | ⟨h0, hz⟩
        · exact h
        · exfalso; rcases hz with hz | hz <;> omega
      · rename_i hev
        have hodd : c % 2 = 1 := by
          have : ¬ c % 2 = 0 := fun e => by rw [show Nat.beq (Nat.mod c 2) 0 = true from beq_true.2 e] at hev; cases hev
          omega
        have hroom : off' + cap * (c / 2) ≤ p.tot := by rcases hc with ⟨h, _⟩ | ⟨_, h⟩; omega; exact h
        split at hx
        · split at hx
          · rename_i hsz
            have hsz : c / 2 = i.size := beq_true.1 hsz
            obtain ⟨l, hh, m, m', hg, e1, e2, e3, e4, e5, hr⟩ := bnds_sound (P := P) (w := w) (isS := true) (len := n) (cap := n) (cap' := cap) hn (Nat.le_refl _) h1 h2 h3 (fun e => absurd rfl e) hx
            obtain ⟨em, em'⟩ := e4 rfl
            subst em'
            refine ⟨_, _, hg, ?_, model hx' hr⟩
            have hsub : Nat.sub hh l = hh - l := rfl
            rw [hsub]
            by_cases e : m' = l
            · rw [if_pos e]
              have : hh - l = 0 := by omega
              rw [this]
              exact .sl0 hp (.inr hodd) (.inr ⟨hodd, by rw [e]; simp; have := Nat.le_add_right off' (m' * (c / 2)); omega⟩)
            · rw [if_neg e, add_none]
              have hle : (m' - l) * (c / 2) + l * (c / 2) = m' * (c / 2) := by rw [← Nat.add_mul]; congr 1; omega
              rcases ho with h | ⟨h0, hz⟩
              · have := VRel.sl (φ := φ) (b := b) (off := Nat.add off (Nat.mul l i.size)) (n := hh - l) (c := c) (cap := m' - l) (p := p) hp (.inr ⟨hodd, by
                  show off + l * i.size + p.s + (m' - l) * (c / 2) ≤ p.tot
                  rw [← hsz]; omega⟩) (by omega)
                rw [show Nat.add off (Nat.mul l i.size) + p.s = off' + l * i.size by show off + l * i.size + p.s = _; omega] at this
                exact this
              · have hl0 : l = 0 := by omega
                have hh0 : hh = 0 := by omega
                subst hl0 hh0
                exact .sl0 hp (.inr hodd) (.inr ⟨hodd, by simpa using hroom⟩)
          · cases hx
        · obtain ⟨l, hh, m, m', hg, e1, e2, e3, e4, e5, hr⟩ := bnds_sound (P := P) (w := w) (isS := true) (len := n) (cap := n) (cap' := cap) hn (Nat.le_refl _) h1 h2 h3 hm hx
          have em : m' = m := e5 (by simp)
          subst em
          refine ⟨_, _, hg, subSl_rel (off' := off') hp e1 e2 (fun hne => ?_), model hx' hr⟩
          rcases ho with h | ⟨h0, hz⟩
          · exact h
          · exfalso; omega
end
end
end Go.Ev

namespace Go.Ev
open Go
noncomputable section

section
variable {P : Program} {LB : LBody} {φ : Phi} {h : H} {w : World} {f : Value → R} {out : Value}

/-! ### Filling the parts of a value -/
theorem fill_fold (off : Nat) (l : List Value) : ∀ (k : Nat) (cells : Array Value), (l.zipIdx k).foldl (fun cs (p : Value × Nat) => cs.setIfInBounds (off + p.2) p.1) cells = setA cells (off + k) l := by
  induction l with
  | nil => intro k cells; rfl
  | cons v r ih => intro k cells; simp only [List.zipIdx_cons, List.foldl_cons, setA]; rw [ih (k + 1)]; rfl
theorem fill_cells (off : Nat) (v : Value) (cells : Array Value) : v.cells.zipIdx.foldl (fun cs (p : Value × Nat) => cs.setIfInBounds (off + p.2) p.1) cells = setA cells off v.cells.toList := by
  rw [← Array.foldl_toList, Array.toList_zipIdx]
  exact fill_fold off v.cells.toList 0 cells
theorem fillL_rel (l l' : List Value) : ∀ (cells : List Value) (cells' : Array Value) (off : Nat), LRel φ l l' → LRel φ cells cells'.toList → LRel φ (fillL cells off l) (setA cells' off l').toList := by
  induction l generalizing l' with
  | nil => intro cells cells' off hl hc; rw [hl.of_nil]; exact hc
  | cons v r ih =>
    intro cells cells' off hl hc
    obtain ⟨v', r', rfl, hv, hr⟩ := hl.uncons
    rw [fillL_cons]; exact ih r' _ _ _ hr (by rw [Array.toList_setIfInBounds]; exact hc.set off hv)
theorem fillL_len (l : List Value) : ∀ (cells : List Value) (off : Nat), (fillL cells off l).length = cells.length := by
  induction l with
  | nil => intro cells off; rfl
  | cons v r ih => intro cells off; simp [fillL_cons, ih]
theorem noFloat {v v' : Value} (hv : VRel φ v v') (hf : ∀ k b, v ≠ .float k b) : LRel φ (cellsOf v) v'.cells.toList := by
  cases hv <;> simp only [cellsOf, Value.cells] <;> first
    | exact LRel.cons (by constructor <;> assumption) (LRel.nil _)
    | exact ⟨by assumption, by assumption⟩
    | (exact absurd rfl (hf _ _))
/-- parts: what the evaluator has, what the model has -/
def PRel (φ : Phi) (place : Nat → Option (Nat × Nat)) : List (Nat × Nat × Value) → List (Nat × Value) → Prop
  | [], [] => True
  | p :: r, q :: r' => place q.1 = some (p.1, p.2.1) ∧ VRel φ p.2.2 q.2 ∧ PRel φ place r r'
  | _, _ => False
theorem fillP_sound {place : Nat → Option (Nat × Nat)} {g : List Value → R} (ps : List (Nat × Nat × Value)) : ∀ (qs : List (Nat × Value)) (cells : List Value) (cells' : Array Value), PRel φ place ps qs → LRel φ cells cells'.toList →
    fillP cells ps g = some out → ∃ l l', g l = some out ∧ LRel φ l l'.toList ∧ l.length = cells.length ∧ Instr.fill place cells' qs = some l' := by
  induction ps with
  | nil =>
    intro qs cells cells' hp hc hx
    cases qs with
    | nil => exact ⟨cells, cells', hx, hc, rfl, rfl⟩
    | cons q r => exact hp.elim
  | cons p r ih =>
    intro qs cells cells' hp hc hx
    cases qs with
    | nil => exact hp.elim
    | cons q r' =>
      obtain ⟨h1, h2, h4⟩ := hp
      simp only [fillP] at hx
      split at hx
      · rename_i hb
        split at hx
        · rename_i hat
          simp only [Bool.and_eq_true] at hb
          have hb1 : (cellsOf p.2.2).length = p.2.1 := beq_true.1 hb.1
          have hb2 : p.1 + p.2.1 ≤ cells.length := ble_iff.1 hb.2
          have hcl := h2.cells hat
          have hsz : q.2.cells.size = p.2.1 := by have := hcl.1; simp at this; omega
          obtain ⟨l, l', a, b, c, d⟩ := ih r' _ _ h4 (fillL_rel _ _ cells cells' p.1 hcl hc) hx
          refine ⟨l, l', a, b, by rw [c, fillL_len], ?_⟩
          simp only [Instr.fill, h1]
          have : ¬ ((decide (q.2.cells.size ≠ p.2.1) || decide (p.1 + q.2.cells.size > cells'.size)) = true) := by
            have := hc.1
            simp at this ⊢
            omega
          rw [if_neg (by simpa using this), fill_cells]
          exact d
        · cases hx
      · cases hx
theorem repL_get (zs : List Value) (n i : Nat) (hz : zs.length ≠ 0) : (repL zs n)[i]? = if i < n * zs.length then zs[i % zs.length]? else none := by
  induction n generalizing i with
  | zero => simp [repL]
  | succ n ih =>
    simp only [repL]
    by_cases hi : i < zs.length
    · rw [List.getElem?_append_left hi, if_pos (by rw [Nat.add_mul]; omega), Nat.mod_eq_of_lt hi]
    · rw [List.getElem?_append_right (by omega), ih]
      have e : (i - zs.length) % zs.length = i % zs.length := by rw [Nat.mod_eq_sub_mod (a := i) (by omega)]
      by_cases h2 : i < (n + 1) * zs.length
      · rw [if_pos h2, if_pos (by rw [Nat.add_mul] at h2; omega), e]
      · rw [if_neg h2, if_neg (by rw [Nat.add_mul] at h2; omega)]
theorem repL_len (zs : List Value) (n : Nat) : (repL zs n).length = n * zs.length := by
  induction n with
  | zero => simp [repL]
  | succ n ih => simp [repL, ih, Nat.add_mul]; omega
theorem zeros_eq (z : Array Value) (n : Nat) (hz : z.size ≠ 0) : ((Array.range (n * z.size)).map (z[· % z.size]!)).toList = repL z.toList n := by
  apply List.ext_getElem?
  intro i
  rw [repL_get _ _ _ (by simpa using hz)]
  simp only [Array.toList_map, Array.toList_range, List.getElem?_map, Array.length_toList]
  by_cases hi : i < n * z.size
  · rw [if_pos hi]
    have : i % z.size < z.size := Nat.mod_lt _ (by omega)
    simp [List.getElem?_range, hi, this, Array.getElem!_eq_getD]
  · rw [if_neg hi]
    simp [List.getElem?_range, hi]
theorem repL_plain {zs : List Value} (hz : zs.all plainA = true) (n : Nat) : (repL zs n).all plainA = true := by
  induction n with
  | zero => rfl
  | succ n ih => simp only [repL, List.all_append, hz, ih, Bool.and_self]
theorem zeroL_inv {t : TypeId} {zs : List Value} (hz : zeroL P t = some zs) : ∃ i z, P.info? t = some i ∧ i.zero = some z ∧ z.cells.toList = zs ∧ zs.all plainA = true ∧ z.cells.size = i.size := by
  unfold zeroL at hz
  split at hz
  · rename_i i hi
    split at hz
    · rename_i z hzz
      split at hz
      · rename_i hc
        simp only [Bool.and_eq_true, beq_iff_eq] at hc
        cases hz
        exact ⟨i, z, hi, hzz, rfl, hc.1, hc.2⟩
      · cases hz
    · cases hz
  · cases hz

/-! ### A new block -/
theorem allB_mem {p : Value → Bool} {l : List Value} (ha : allB p l = true) : ∀ v ∈ l, p v = true := by
  induction l with
  | nil => intro v hv; cases hv
  | cons x r ih =>
    simp only [allB_cons] at ha
    split at ha
    · rename_i hx
      intro v hv
      rcases List.mem_cons.1 hv with rfl | hv
      · exact hx
      · exact ih ha v hv
    · cases ha
/-- what one operation does to memory -/
structure Step (LB : LBody) (φ : Phi) (h : H) (w : World) (ψ : Phi) (g : H) (u : World) : Prop where
  rel : HRel LB ψ g u
  ext : Ext φ h w ψ g u
theorem newCells_sound (hH : HRel LB φ h w) {l : List Value} {cs : Array Value} (t : TypeId) (fr : Nat × Nat) (hfr : fr.2 ≤ fr.1 ∨ cs.size ≤ fr.1) {n : Nat} (hl : LRel φ l (cs.toList.take l.length)) (hle : l.length ≤ cs.size) {ty : Option TypeId} (hty : ∀ x, ty = some x → t = x ∧ fr.2 = 0) {fz : Nat} {ex : Bool} (hex : ex = true → cs.size = l.length) {k : Nat → H → R} (hx : newCells ty fz ex h l k = some out) :
    ∃ g, k h.nx g = some out ∧ allB atom l = true ∧ Step LB φ h w (φ.put h.nx ⟨w.heap.size, 0, cs.size⟩) g (w.alloc (.cells cs t fr)) ∧ look g.es h.nx = some (.cells (Tr.ofList l) l.length false ⟨!anyPtr l, ty, fz, ex⟩) := by
  unfold newCells at hx
  split at hx
  · rename_i ha
    have hes : ∀ i, look ((h.nx, Ent.cells (Tr.ofList l) l.length false ⟨!anyPtr l, ty, fz, ex⟩) :: h.es) i = if i = h.nx then some (.cells (Tr.ofList l) l.length false ⟨!anyPtr l, ty, fz, ex⟩) else look h.es i := fun i => look_cons _ _ _
    refine ⟨_, hx, ha, ⟨hH.alloc (hH.fresh _ (Nat.le_refl _)) (Nat.le_succ _) (Nat.lt_succ_self _) hes ?_, ext_alloc (Nat.lt_succ_self _) hes⟩, by rw [hes, if_pos rfl]⟩
    refine ⟨cs, t, fr, heap_alloc_new w _, by simpa using hle, rfl, ⟨fun _ i _ hi => by rcases hfr with h | h <;> omega, fun x hx => ⟨(hty x hx).1, .inl (hty x hx).2⟩, fun he => ⟨rfl, hex he⟩⟩, fun i v hv => ?_⟩
    rw [Tr.get_ofList] at hv
    have hi : i < l.length := (List.getElem?_eq_some_iff.1 hv).1
    obtain ⟨v', h1, h2⟩ := hl.at hv
    refine ⟨hi, allB_mem ha v (List.mem_of_getElem? hv), v', ?_, h2.mono (Phi.le_put (hH.fresh _ (Nat.le_refl _)))⟩
    rw [List.getElem?_take, if_pos hi] at h1
    simpa using h1
  · cases hx
theorem newCells_exact (hH : HRel LB φ h w) {l : List Value} {cs : Array Value} (t : TypeId) (hl : LRel φ l cs.toList) {ty : Option TypeId} (hty : ∀ x, ty = some x → t = x) {fz : Nat} {ex : Bool} {k : Nat → H → R} (hx : newCells ty fz ex h l k = some out) :
    ∃ g, k h.nx g = some out ∧ Step LB φ h w (φ.put h.nx ⟨w.heap.size, 0, cs.size⟩) g (w.alloc (.cells cs t)) := by
  have hsz : l.length = cs.size := by have := hl.1; simpa using this
  obtain ⟨g, h1, _, h2, _⟩ := newCells_sound hH (n := 0) t (0, 0) (.inl (Nat.le_refl _)) (by rw [hsz, ← Array.length_toList, List.take_length]; exact hl) (by omega) (fun x hx => ⟨hty x hx, rfl⟩) (fun _ => hsz.symm) hx
  exact ⟨g, h1, h2⟩
theorem new_ptr {φ : Phi} {n b tot : Nat} : VRel (φ.put n ⟨b, 0, tot⟩) (mkPtr n 0) (.pointer (some ⟨b, 0, none⟩)) := .ptr (p := ⟨b, 0, tot⟩) (Phi.put_same φ n _)

/-! ### Writing cells -/
theorem putCells_sound (hH : HRel LB φ h w) {b off : Nat} {p : Pl} {l l' : List Value} (hp : φ b = some p) (hl : LRel φ l l') {k : H → R} (hx : putCells h b off l k = some out) :
    ∃ g u, k g = some out ∧ Step LB φ h w φ g u ∧ (storeCells ⟨p.b, off + p.s, none⟩ l').run P w = .ok () u := by
  unfold putCells at hx
  obtain ⟨c, s, ro, fl, he, hx1⟩ := cellsAt_inv hx
  cases ro with
  | true => cases hx1
  | false =>
    dsimp only at hx1
    split at hx1
    · cases hx1
    · rename_i ha
      split at hx1
      · cases hx1
      · rename_i hle
        obtain ⟨hle, hfz⟩ := Bool.and_eq_true_iff.1 hle
        have hle : off + l.length ≤ s := ble_iff.1 hle
        have hfz : fl.fz ≤ off := ble_iff.1 hfz
        obtain ⟨q, h3, cs, t, fr, h4, h5, h6, h7, h8⟩ := hH.live b _ he
        rw [hp] at h3; cases h3
        have hlt : p.b < w.heap.size := (Array.getElem?_eq_some_iff.1 h4).1
        have hll : l'.length = l.length := hl.1.symm
        have run : (storeCells ⟨p.b, off + p.s, none⟩ l').run P w = .ok () (putW w p.b (setA cs (off + p.s) l') t fr) := by
          have := run_storeCells P hlt (t := t) (fr := fr) (off := off + p.s) l' 0 cs (fun v hv => by
            obtain ⟨i, hi⟩ := List.mem_iff_getElem?.1 hv
            have hil : i < l.length := by have := (List.getElem?_eq_some_iff.1 hi).1; omega
            have hv1 := hl.2 i _ v (List.getElem?_eq_getElem hil) hi
            have hat := allB_mem ha l[i] (List.getElem_mem hil)
            obtain ⟨_, n1, n2⟩ := hv1.atom hat
            cases v <;> first
              | rfl
              | (exact absurd rfl (n1 _))
              | (exact absurd rfl (n2 _))) (by omega) (fun j hj => by
                exact h7.1 rfl _ (.inr (by omega)) (by omega))
          rw [putW_self h4] at this
          simpa using this
        have hu : ∀ c, c ≠ p.b → (putW w p.b (setA cs (off + p.s) l') t fr).heap[c]? = w.heap[c]? := fun c hc => by rw [putW_heap hlt, if_neg hc]
        have hE : ∀ fl' : FT, fl'.ty = fl.ty → fl'.fz = fl.fz → fl'.ex = fl.ex → ERel LB φ (.cells (setN c off l) s false fl') p (putW w p.b (setA cs (off + p.s) l') t fr) := fun fl' e1 e2 e3 => by
          refine ⟨setA cs (off + p.s) l', t, fr, by rw [putW_heap hlt, if_pos rfl], by rw [setA_size]; exact h5, by rw [setA_size]; exact h6, by rw [setA_size, e1, e2, e3]; exact h7, fun i v hv => ?_⟩
          rw [setN_get] at hv
          rw [setA_get _ _ _ _ (by omega)]
          by_cases hi : off ≤ i ∧ i < off + l.length
          · rw [if_pos hi] at hv
            rw [if_pos (by omega)]
            cases hc : c.get i with
            | none => rw [hc] at hv; cases hv
            | some v0 =>
              rw [hc] at hv
              simp only [Option.bind_some] at hv
              obtain ⟨hlt', _, _⟩ := h8 i v0 hc
              obtain ⟨v', h9, h10⟩ := hl.at hv
              exact ⟨hlt', allB_mem ha v (List.mem_of_getElem? hv), v', by rw [show p.s + i - (off + p.s) = i - off by omega]; exact h9, h10⟩
          · rw [if_neg hi] at hv
            rw [if_neg (by omega)]
            exact h8 i v hv
        have size : (putW w p.b (setA cs (off + p.s) l') t fr).heap.size = w.heap.size := by simp [putW]
        split at hx1
        · exact ⟨_, _, hx1, ⟨hH.turn he hp hu (hE _ rfl rfl rfl), ext_turn he rfl hp hu size rfl rfl rfl⟩, run⟩
        · exact ⟨_, _, hx1, ⟨hH.turn he hp hu (hE _ rfl rfl rfl), ext_turn he rfl hp hu size rfl rfl rfl⟩, run⟩
theorem store_sound (hH : HRel LB φ h w) {t : TypeId} {n : Nat} {x x' v v' : Value} (hd : sz P t = some n) (hv : VRel φ x x') (hvv : VRel φ v v') {k : H → R} (hx : store n x v h k = some out) :
    ∃ g u, k g = some out ∧ Step LB φ h w φ g u ∧ (Instr.storeAt t x' v').run P w = .ok () u := by
  unfold store at hx
  obtain ⟨b, off, rfl, hx1⟩ := addr_inv hx
  obtain ⟨p, hp, _, rfl⟩ := hv.inv_ptr
  split at hx1
  · rename_i hlen
    have hlen : (cellsOf v).length = n := beq_true.1 hlen
    have hnf : ∀ k b, v ≠ .float k b := fun k b e => by
      subst e
      unfold putCells at hx1
      obtain ⟨c, s, ro, fl, he, hx2⟩ := cellsAt_inv hx1
      cases ro
      · simp [cellsOf, allB_cons, allB_nil, atom] at hx2
      · cases hx2
    have hl := noFloat hvv hnf
    obtain ⟨g, u, h1, h2, h3⟩ := putCells_sound (P := P) hH hp hl hx1
    refine ⟨g, u, h1, h2, ?_⟩
    unfold sz at hd
    cases hi : P.info? t with
    | none => rw [hi] at hd; cases hd
    | some i =>
      rw [hi] at hd
      have hd : i.size = n := by simpa using hd
      have : v'.cells.size = n := by have := hl.1; simp at this; omega
      simp only [Instr.storeAt, Instr.sureAddr, Sem.run_bind, Sem.run_pure, Result.andThen_ok, storeVar, run_sizeOf hi]
      rw [if_neg (by omega)]
      exact h3
  · cases hx1
end
end
end Go.Ev

namespace Go.Ev
open Go
noncomputable section

section
variable {P : Program} {LB : LBody} {φ : Phi} {h : H} {w : World} {f : Value → R} {out : Value}

theorem HRel.drew (hH : HRel LB φ h w) : HRel LB φ h w.drew := ⟨hH.fresh, fun i e he => let ⟨p, a, b⟩ := hH.live i e he; ⟨p, a, b.keep (Phi.le_refl _) rfl⟩, hH.inj⟩
theorem Ext.of_drew {ψ : Phi} {g : H} {u : World} (k : Ext φ h w.drew ψ g u) : Ext φ h w ψ g u := ⟨k.same, k.nx, k.size, k.os, k.tape, k.output, k.keep, k.img⟩

theorem alloc_sound (hH : HRel LB φ h w) {t : TypeId} {zs : List Value} (hz : zeroL P t = some zs) {ty : Option TypeId} (hty : ∀ x, ty = some x → t = x) {k : KV} (hx : alloc ty zs h k = some out) :
    ∃ v v' g ψ u, k v g = some out ∧ VRel ψ v v' ∧ Step LB φ h w ψ g u ∧ (Instr.alloc t true (.tuple #[])).run P w = .ok v' u := by
  obtain ⟨i, z, hi, hzz, rfl, hp, _⟩ := zeroL_inv hz
  unfold alloc at hx
  obtain ⟨g, h1, h2⟩ := newCells_exact hH t (plainL_rel φ hp) hty hx
  exact ⟨_, _, g, _, _, h1, new_ptr, h2, by simp [Instr.alloc, run_zeroValue hi hzz, run_newVar]⟩
theorem box_sound (hH : HRel LB φ h w) {t : TypeId} {x x' : Value} (hv : VRel φ x x') {k : KV} (hx : box x h k = some out) :
    ∃ v v' g ψ u, k v g = some out ∧ VRel ψ v v' ∧ Step LB φ h w ψ g u ∧ (Instr.box t x').run P w = .ok v' u := by
  unfold box at hx
  have hl : LRel φ (cellsOf x) x'.cells.toList := by
    unfold newCells at hx
    split at hx
    · rename_i ha; exact hv.cells ha
    · cases hx
  obtain ⟨g, h1, h2⟩ := newCells_exact hH t hl (fun _ h => by cases h) hx
  exact ⟨_, _, g, _, _, h1, new_ptr, h2, by simp [Instr.box, run_newVar]⟩
theorem build_sound {t : TypeId} {zs : List Value} {ps : List (Nat × Nat × Value)} {qs : Array (Nat × Value)} {place : Nat → Option (Nat × Nat)} (hz : zeroL P t = some zs)
    (hb : ∀ z cells, (P.info? t).bind (·.zero) = some z → Instr.fill place z.cells qs.toList = some cells → P.built t qs.toList = some cells) (hp : PRel φ place ps qs.toList)
    (hx : build zs ps f = some out) : ∃ v v', f v = some out ∧ VRel φ v v' ∧ (Instr.build t qs).run P w = .ok v' w := by
  obtain ⟨i, z, hi, hzz, rfl, hpl, _⟩ := zeroL_inv hz
  unfold build at hx
  obtain ⟨l, l', h1, h2, h3, h4⟩ := fillP_sound ps qs.toList _ z.cells hp (plainL_rel φ hpl) hx
  refine ⟨_, .agg l', h1, ?_, run_build w t qs l' (hb z l' (by rw [hi]; exact hzz) h4)⟩
  have := VRel.agg' h2
  simpa using this
theorem buildSlice_sound (hH : HRel LB φ h w) {t e : TypeId} {n : Nat} {i : TypeInfo} {zs : List Value} {ps : List (Nat × Nat × Value)} {qs : Array (Nat × Value)} (hu : P.underlying t = some (.slice e)) (hz : zeroL P e = some zs) (hi : P.info? e = some i) (hs : i.size ≠ 0)
    (hn : n * i.size ≤ 2 ^ 24) (hp : PRel φ (fun j => some (j * i.size, i.size)) ps qs.toList) {k : KV} (hx : buildSlice n (repL zs n) ps h k = some out) :
    ∃ v v' g ψ u, k v g = some out ∧ VRel ψ v v' ∧ Step LB φ h w ψ g u ∧ (Instr.buildSlice t n qs).run P w = .ok v' u := by
  obtain ⟨i', z, hi', hzz, rfl, hpl, hsz⟩ := zeroL_inv hz
  rw [hi] at hi'; cases hi'
  unfold buildSlice at hx
  have hzero : ((if n * i.size = 0 then pure #[] else do pure (← zeroValue e).cells : Sem (Array Value))).run P w = .ok (if n * i.size = 0 then #[] else z.cells) w := by
    split
    · simp
    · simp [run_zeroValue hi hzz]
  have hzl : ((Array.range (n * i.size)).map ((if n * i.size = 0 then #[] else z.cells)[· % (if n * i.size = 0 then (#[] : Array Value) else z.cells).size]!)).toList = repL z.cells.toList n := by
    by_cases h0 : n * i.size = 0
    · have hn0 : n = 0 := by rcases Nat.mul_eq_zero.1 h0 with h | h; exact h; exact absurd h hs
      subst hn0; simp [repL]
    · simp only [if_neg h0]
      rw [← hsz]; exact zeros_eq z.cells n (by omega)
  obtain ⟨l, l', h1, h2, h3, h4⟩ := fillP_sound ps qs.toList _ ((Array.range (n * i.size)).map ((if n * i.size = 0 then #[] else z.cells)[· % (if n * i.size = 0 then (#[] : Array Value) else z.cells).size]!)) hp (by rw [hzl]; exact plainL_rel φ (repL_plain hpl n)) hx
  obtain ⟨g, h5, h6⟩ := newCells_exact hH e h2 (fun _ h => by cases h) h1
  refine ⟨_, .slice (some ⟨w.heap.size, 0, none⟩) n n, g, _, _, h5, ?_, h6, ?_⟩
  · have := VRel.sl (φ := φ.put h.nx ⟨w.heap.size, 0, l'.size⟩) (b := h.nx) (off := 0) (n := n) (c := Nat.mul 2 n) (cap := n) (p := ⟨w.heap.size, 0, l'.size⟩) (Phi.put_same φ _ _) (.inl ⟨by show 2 * n % 2 = 0; omega, by show n = 2 * n / 2; omega⟩) (Nat.le_refl _)
    exact this
  · have hsmall : ¬ n * i.size > 2 ^ 24 := by omega
    by_cases h0 : n * i.size = 0
    · simp only [if_pos h0] at h4
      simp only [Instr.buildSlice, Sem.run_bind, run_underlying hu, Result.andThen_ok, run_sizeOf hi, if_neg hsmall, if_pos h0, h4, run_newRow, Sem.run_pure]
    · simp only [if_neg h0] at h4
      simp only [Instr.buildSlice, Sem.run_bind, run_underlying hu, Result.andThen_ok, run_sizeOf hi, if_neg hsmall, if_neg h0, run_zeroValue hi hzz, h4, run_newRow, Sem.run_pure]
theorem makeSlice_sound (hH : HRel LB φ h w) {t e : TypeId} {i : TypeInfo} {zs : List Value} {x x' y y' : Value} (hu : P.underlying t = some (.slice e)) (hz : zeroL P e = some zs) (hi : P.info? e = some i) (hs : i.size ≠ 0)
    (hv : VRel φ x x') (hy : VRel φ y y') {k : KV} (hx : makeSlice e zs i.bytes x y h k = some out) :
    ∃ v v' g ψ u, k v g = some out ∧ VRel ψ v v' ∧ Step LB φ h w ψ g u ∧ (Instr.makeSlice t x' y').run P w = .ok v' u := by
  obtain ⟨i', z, hi', hzz, rfl, hpl, hsz⟩ := zeroL_inv hz
  rw [hi] at hi'; cases hi'
  unfold makeSlice at hx
  split at hx
  · rename_i kx l
    split at hx
    · rename_i ky c
      split at hx
      · rename_i hb
        simp only [Bool.and_eq_true] at hb
        obtain ⟨⟨hb1, hb2⟩, hb3⟩ := hb
        have hb1 : l ≤ c := ble_iff.1 hb1
        have hb2 : c ≤ 9223372036854775807 := ble_iff.1 hb2
        have hb3 : c * i.bytes ≤ 140737488355328 := ble_iff.1 hb3
        rw [hv.inv_int, hy.inv_int]
        have hzl : ((Array.range (c * i.size)).map ((if c * i.size = 0 then #[] else z.cells)[· % (if c * i.size = 0 then (#[] : Array Value) else z.cells).size]!)).toList = repL z.cells.toList c := by
          by_cases h0 : c * i.size = 0
          · have hn0 : c = 0 := by rcases Nat.mul_eq_zero.1 h0 with h | h; exact h; exact absurd h hs
            subst hn0; simp [repL]
          · simp only [if_neg h0]
            rw [← hsz]; exact zeros_eq z.cells c (by omega)
        have hzero : ((if c * i.size = 0 then pure #[] else do pure (← zeroValue e).cells : Sem (Array Value))).run P w = .ok (if c * i.size = 0 then #[] else z.cells) w := by
          split
          · simp
          · simp [run_zeroValue hi hzz]
        obtain ⟨g, h5, h6⟩ := newCells_exact (cs := ((Array.range (c * i.size)).map ((if c * i.size = 0 then #[] else z.cells)[· % (if c * i.size = 0 then (#[] : Array Value) else z.cells).size]!))) hH e (by rw [hzl]; exact plainL_rel φ (repL_plain hpl c)) (fun _ h => by cases h; rfl) hx
        refine ⟨_, .slice (some ⟨w.heap.size, 0, none⟩) l c, g, _, _, h5, ?_, h6, ?_⟩
        · have := VRel.sl (b := h.nx) (off := 0) (n := l) (c := Nat.mul 2 c) (cap := c) (Phi.put_same φ h.nx ⟨w.heap.size, 0, ((Array.range (c * i.size)).map ((if c * i.size = 0 then #[] else z.cells)[· % (if c * i.size = 0 then (#[] : Array Value) else z.cells).size]!)).size⟩) (.inl ⟨by show 2 * c % 2 = 0; omega, by show c = 2 * c / 2; omega⟩) hb1
          exact this
        · have wl : IntKind.i64.wrap (Int.ofNat l) = (l : Int) := by
            rw [← wrapW_eq]; simp only [wrapW, signedW]; rw [blt_iff.2 (by omega)]; rfl
          have wc : IntKind.i64.wrap (Int.ofNat c) = (c : Int) := by
            rw [← wrapW_eq]; simp only [wrapW, signedW]; rw [blt_iff.2 (by omega)]; rfl
          have hbc : ¬ ((i.bytes : Int) * (c : Int) > 2 ^ 48) := by
            have : (i.bytes : Int) * (c : Int) = ((c * i.bytes : Nat) : Int) := by rw [Int.natCast_mul, Int.mul_comm]
            rw [this]; omega
          simp only [Instr.makeSlice, Sem.run_bind, run_underlying hu, Result.andThen_ok, asInt, asIntOf, Sem.run_pure, run_typeInfo hi, wl, wc]
          have c1 : ¬ ((decide ((c : Int) < 0) || decide ((i.bytes : Int) * (c : Int) > 2 ^ 48)) = true ∨ (l : Int) < 0 ∨ (l : Int) > (c : Int)) := by
            simp only [Bool.or_eq_true, decide_eq_true_eq, not_or]
            exact ⟨⟨by omega, hbc⟩, by omega, by omega⟩
          have c2 : ((decide ((c : Int) < 0) || decide ((i.bytes : Int) * (c : Int) > 2 ^ 48)) || decide ((l : Int) < 0) || decide ((l : Int) > (c : Int))) = false := by
            simp only [Bool.or_eq_false_iff, decide_eq_false_iff_not]
            exact ⟨⟨⟨by omega, hbc⟩, by omega⟩, by omega⟩
          simp only [c2, Bool.false_eq_true, if_false, run_askRoom, Result.andThen_ok, Int.toNat_natCast, run_sizeOf hi, run_newRow, Sem.run_bind, Sem.run_pure]
          by_cases h0 : c * i.size = 0
          · simp only [if_pos h0, run_newRow, Sem.run_bind, Sem.run_pure, Result.andThen_ok]
          · simp only [if_neg h0, run_zeroValue hi hzz, run_newRow, Sem.run_bind, Sem.run_pure, Result.andThen_ok]
      · cases hx
    · cases hx
  · cases hx
theorem rangeStr_sound (hH : HRel LB φ h w) {t : TypeId} {x x' : Value} (hu : P.underlying t = some .string) (hv : VRel φ x x') {k : KV} (hx : rangeStr x h k = some out) :
    ∃ v v' g ψ u, k v g = some out ∧ VRel ψ v v' ∧ Step LB φ h w ψ g u ∧ (Instr.range t x').run P w = .ok v' u := by
  unfold rangeStr at hx
  split at hx
  · rename_i s
    rw [hv.inv_str]
    have hes : ∀ i, look ((h.nx, Ent.iter s 0) :: h.es) i = if i = h.nx then some (.iter s 0) else look h.es i := fun i => look_cons _ _ _
    refine ⟨_, .pointer (some ⟨w.heap.size, 0, none⟩), _, φ.put h.nx ⟨w.heap.size, 0, 0⟩, w.alloc (.stringIter s 0), hx, new_ptr, ⟨hH.alloc (hH.fresh _ (Nat.le_refl _)) (Nat.le_succ _) (Nat.lt_succ_self _) hes ⟨rfl, heap_alloc_new w _⟩, ext_alloc (Nat.lt_succ_self _) hes⟩, ?_⟩
    simp [Instr.range, run_underlying hu]
  · cases hx
theorem nextStr_sound (hH : HRel LB φ h w) {t : TypeId} {x x' : Value} (hv : VRel φ x x') {k : KV} (hx : nextStr x h k = some out) :
    ∃ v v' g u, k v g = some out ∧ VRel φ v v' ∧ Step LB φ h w φ g u ∧ (Instr.next x' true t).run P w = .ok v' u := by
  unfold nextStr at hx
  obtain ⟨b, off, rfl, hx1⟩ := addr_inv hx
  obtain ⟨p, hp, _, rfl⟩ := hv.inv_ptr
  split at hx1
  · cases hx1
  · rename_i h0
    have h0 : off = 0 := beq_true.1 h0
    subst h0
    split at hx1
    · rename_i s pos he
      obtain ⟨q, h3, hs, h4⟩ := hH.live b _ he
      rw [hp] at h3; cases h3
      have hlt : p.b < w.heap.size := (Array.getElem?_eq_some_iff.1 h4).1
      have addr0 : (0 : Nat) + p.s = 0 := by omega
      have tup : ∀ {l : List Value}, (∀ v ∈ l, plainA v = true) → VRel φ (.tuple l.toArray) (.tuple l.toArray) := fun {l} hl => VRel.tuple' (plainL_rel φ (by simpa using hl))
      simp only [addr0]
      split at hx1
      · rename_i hpos
        have hpos := blt_false.1 hpos
        refine ⟨_, .tuple #[.bool false], _, w, hx1, tup (l := [.bool false]) (by simp [plainA]), ⟨hH, Ext.refl _ _ _⟩, ?_⟩
        simp only [Instr.next, getObj, Sem.run_bind, Sem.run, h4, Result.andThen_ok]
        rw [if_neg (by omega)]; rfl
      · rename_i hpos
        have hpos := blt_iff.1 hpos
        have hu : ∀ c, c ≠ p.b → ({ w with heap := w.heap.setIfInBounds p.b (.stringIter s (pos + (Utf8.decode s pos).2)) } : World).heap[c]? = w.heap[c]? := fun c hc => Array.getElem?_setIfInBounds_ne (fun e => hc e.symm)
        refine ⟨_, .tuple #[.bool true, .int .i64 (Int.ofNat pos), .int .i32 (Utf8.decode s pos).1], _, { w with heap := w.heap.setIfInBounds p.b (.stringIter s (pos + (Utf8.decode s pos).2)) }, hx1, tup (l := [.bool true, .int .i64 (Int.ofNat pos), .int .i32 (Utf8.decode s pos).1]) (by simp [plainA]),
          ⟨hH.turn he hp hu ⟨hs, by simp [hlt]⟩, ext_turn he rfl hp hu (by simp) rfl rfl rfl⟩, ?_⟩
        simp only [Instr.next, getObj, setObj, Sem.run_bind, Sem.run, h4, Result.andThen_ok]
        rw [if_pos hpos]
        simp only [Sem.run_bind, Sem.run, h4, Result.andThen_ok]
        rfl
    · cases hx1
end
end
end Go.Ev

namespace Go.Ev
open Go
noncomputable section

section
variable {P : Program} {LB : LBody} {φ : Phi} {h : H} {w : World} {f : Value → R} {out : Value}

/-- a slice's row, as far as it is known -/
theorem slice_known {b off n c : Nat} {x' : Value} (hv : VRel φ (.slice (some ⟨b, off, none⟩) n c) x') :
    ∃ p off' cap, φ b = some p ∧ x' = .slice (some ⟨p.b, off', none⟩) n cap ∧ capOk c cap off' p.tot ∧ n ≤ cap ∧ (off' = off + p.s ∨ (n = 0 ∧ (c = 0 ∨ c % 2 = 1))) := by
  cases hv with
  | sl h1 hc hn => exact ⟨_, _, _, h1, rfl, hc, hn, .inl rfl⟩
  | sl0 h1 h0 hc => exact ⟨_, _, _, h1, rfl, hc, Nat.zero_le _, .inr ⟨rfl, h0⟩⟩
theorem u8L_eq (l : List UInt8) : u8L l = l.map fun b => Value.int .u8 ((b.toNat : Nat) : Int) := by
  induction l with
  | nil => rfl
  | cons a r ih => simp only [u8L_cons, ih, List.map_cons]; rfl
theorem lenOf_run {y y' : Value} {n : Nat} (hv : VRel φ y y') (hn : (∃ a c, y = .slice a n c) ∨ (∃ s, y = .string s ∧ s.size = n)) : (Builtin.lenOf y').run P w = .ok n w := by
  rcases hn with ⟨a, c, rfl⟩ | ⟨s, rfl, rfl⟩
  · cases hv <;> simp [Builtin.lenOf]
  · rw [hv.inv_str]; simp [Builtin.lenOf]
/-- what is read from a slice or a string -/
theorem cellsIn_sound (hH : HRel LB φ h w) {size : Nat} {most : Nat → Nat} {y y' : Value} (hv : VRel φ y y') (hmost : ∀ n, most n ≤ n) {g : Nat → List Value → R} (hx : cellsIn y size most h g = some out) :
    ∃ n l l', g (most n) l = some out ∧ ((∃ a c, y = .slice a n c) ∨ (∃ s, y = .string s ∧ s.size = n ∧ size = 1)) ∧ LRel φ l l' ∧ l.length = most n * size ∧ ∀ u : World, (∀ b, Img φ h b → u.heap[b]? = w.heap[b]?) → (Builtin.firstCells size (most n) y').run P u = .ok l'.toArray u := by
  unfold cellsIn at hx
  cases y <;> dsimp only at hx <;> try (cases hx; done)
  case slice a n c =>
    cases a with
    | none =>
      dsimp only at hx
      cases hv
      have : most 0 = 0 := by have := hmost 0; omega
      exact ⟨0, [], [], by rw [this]; exact hx, .inl ⟨_, _, rfl⟩, LRel.nil φ, by simp [this], fun u _ => by simp [Builtin.firstCells]⟩
    | some a =>
      obtain ⟨b, off, sp⟩ := a
      dsimp only at hx
      cases sp with
      | some s => cases hx
      | none =>
        dsimp only at hx
        obtain ⟨p, off', cap, hp, rfl, hc, hn, ho⟩ := slice_known hv
        split at hx
        · rename_i h0
          have h0 : most n = 0 := beq_true.1 h0
          refine ⟨n, [], [], by rw [h0]; exact hx, .inl ⟨_, _, rfl⟩, LRel.nil φ, by simp [h0], fun u _ => ?_⟩
          rw [h0]; simp [Builtin.firstCells, loadCells, loadCellsFrom]
        · rename_i h0
          have h0 : ¬ most n = 0 := fun e => by rw [show Nat.beq (most n) 0 = true from beq_true.2 e] at h0; cases h0
          have hoff : off' = off + p.s := by
            rcases ho with h | ⟨h, _⟩
            · exact h
            · have := hmost n; omega
          obtain ⟨t, s, ro, fl, hl, hx1⟩ := cellsAt_inv hx
          obtain ⟨q, h3, cs, ty, fr, h4, h5, h6, h7, h8⟩ := hH.live b _ hl
          rw [hp] at h3; cases h3
          split at hx1
          · rename_i l hg
            obtain ⟨l', h9, h10, h11⟩ := cells_row h8 hg
            refine ⟨n, l, l', hx1, .inl ⟨_, _, rfl⟩, h10, by rw [h10.1, h9]; rfl, fun u hu => ?_⟩
            simp only [Builtin.firstCells]
            rw [hoff]
            exact run_loadCells P ((hu p.b ⟨b, _, p, hl, hp, rfl⟩).trans h4) h9 h11
          · cases hx1
  case string s =>
    split at hx
    · rename_i h1
      have h1 : size = 1 := beq_true.1 h1
      subst h1
      rw [hv.inv_str]
      have hms : Nat.min (most s.size) s.size = most s.size := Nat.min_eq_left (hmost _)
      rw [hms] at hx
      refine ⟨s.size, _, u8L (s.data.toList.take (most s.size)), hx, .inr ⟨s, rfl, rfl, rfl⟩, plainL_rel φ ?_, ?_, fun u _ => ?_⟩
      · rw [u8L_eq, List.all_map, List.all_eq_true]; exact fun _ _ => rfl
      · rw [u8L_eq]; simp; exact hms
      · simp only [Builtin.firstCells, Sem.run_pure]
        congr 1
        rw [u8L_eq, ByteArray.data_extract]
        apply Array.ext'
        simp [List.take_drop]
    · cases hx
/-- a new entry in a world that has one block more -/
theorem step_new (hH : HRel LB φ h w) {u : World} {es : List (Nat × Ent)} {e : Ent} {nx low tot : Nat} (hnx : h.nx < nx) (hes : ∀ i, look es i = if i = h.nx then some e else look h.es i)
    (hs : w.heap.size ≤ u.heap.size) (ho : u.os = w.os) (ht : u.tape = w.tape) (hout : u.output = w.output) (hu : ∀ b, b < w.heap.size → u.heap[b]? = w.heap[b]?)
    (he : ERel LB (φ.put h.nx ⟨w.heap.size, 0, tot⟩) e ⟨w.heap.size, 0, tot⟩ u) : Step LB φ h w (φ.put h.nx ⟨w.heap.size, 0, tot⟩) { es, nx, low } u :=
  ⟨hH.add (hH.fresh _ (Nat.le_refl _)) (Nat.le_of_lt hnx) hnx hes (fun hi => Nat.lt_irrefl _ (hH.img_lt hi)) (fun b hb => hu b (hH.img_lt hb)) he, ext_add hnx hes (Nat.le_refl _) hs ho ht hout hu⟩
theorem strBytes_sound (hH : HRel LB φ h w) {s d e : TypeId} {x x' : Value} {ds : TypeDesc} (hs : P.underlying s = some ds) (hd : P.underlying d = some (.slice e)) (he : P.underlying e = some (.int .u8)) (hv : VRel φ x x') {k : KV} (hx : strBytes x h k = some out) :
    ∃ v v' g ψ u, k v g = some out ∧ VRel ψ v v' ∧ Step LB φ h w ψ g u ∧ (convert s d x').run P w = .ok v' u := by
  unfold strBytes newCells at hx
  split at hx
  · rename_i str
    rw [hv.inv_str]
    split at hx
    · rename_i ha
      have hcap : str.size ≤ grownCap w str.size 0 e := by simp [grownCap, Question.cut]
      have hcs : (Lib.bytesCells w e str).size = grownCap w str.size 0 e := by simp [Lib.bytesCells]; omega
      have hlen : (u8L str.data.toList).length = str.size := by rw [u8L_eq]; simp
      have hes : ∀ i, look ((h.nx, Ent.cells (Tr.ofList (u8L str.data.toList)) (u8L str.data.toList).length false ⟨!anyPtr (u8L str.data.toList), none, 0, false⟩) :: h.es) i = if i = h.nx then some (.cells (Tr.ofList (u8L str.data.toList)) (u8L str.data.toList).length false ⟨!anyPtr (u8L str.data.toList), none, 0, false⟩) else look h.es i := fun i => look_cons _ _ _
      refine ⟨_, .slice (some ⟨w.heap.size, 0, none⟩) str.size (grownCap w str.size 0 e), _, φ.put h.nx ⟨w.heap.size, 0, (Lib.bytesCells w e str).size⟩, Lib.bytesWorld w e str, hx, ?_,
        step_new hH (Nat.lt_succ_self _) hes (by rw [Lib.bytesWorld_size]; omega) rfl rfl rfl (Lib.bytesWorld_at_old w e str) ?_, Lib.run_convert_string_bytes w s d e str hs hd he⟩
      · have := VRel.sl (b := h.nx) (off := 0) (n := str.size) (c := 3) (cap := grownCap w str.size 0 e) (Phi.put_same φ h.nx ⟨w.heap.size, 0, (Lib.bytesCells w e str).size⟩) (.inr ⟨rfl, by simp [hcs]⟩) hcap
        exact this
      · refine ⟨_, _, _, Lib.bytesWorld_at_new w e str, by simp [hcs, hlen]; omega, rfl, ⟨fun _ i _ hi => by simp; omega, fun _ h => (by cases h), fun h => by cases h⟩, fun i v hv => ?_⟩
        rw [Tr.get_ofList] at hv
        have hi : i < (u8L str.data.toList).length := (List.getElem?_eq_some_iff.1 hv).1
        refine ⟨hi, allB_mem ha v (List.mem_of_getElem? hv), v, ?_, ?_⟩
        · rw [hlen] at hi
          have hi' : i < str.data.size := hi
          rw [u8L_eq] at hv
          simp only [Nat.zero_add, Lib.bytesCells]
          rw [Array.getElem?_append_left (by simpa using hi')]
          simpa using hv
        · rw [u8L_eq] at hv
          simp only [List.getElem?_map] at hv
          cases hb : str.data.toList[i]? with
          | none => rw [hb] at hv; cases hv
          | some c => rw [hb] at hv; cases hv; exact .int _ _
    · cases hx
  · cases hx
theorem bytesStr_sound (hH : HRel LB φ h w) {s d e : TypeId} {x x' : Value} (hs : P.underlying s = some (.slice e)) (he : P.underlying e = some (.int .u8)) (hd : P.underlying d = some .string) (hv : VRel φ x x') (hx : bytesStr x h f = some out) :
    ∃ v v', f v = some out ∧ VRel φ v v' ∧ (convert s d x').run P w = .ok v' w := by
  have bytes : ∀ (l : List Value) (b : List UInt8) (l' : List Value), bytesL l = some b → LRel φ l l' → ∃ ns : List Int, l' = ns.map (Value.int .u8) ∧ (ns.map fun n => UInt8.ofNat n.toNat) = b := by
    intro l
    induction l with
    | nil => intro b l' hb hl; simp [bytesL_nil] at hb; subst hb; rw [hl.of_nil]; exact ⟨[], rfl, rfl⟩
    | cons v r ih =>
      intro b l' hb hl
      obtain ⟨v', r', rfl, hv, hr⟩ := hl.uncons
      simp only [bytesL_cons] at hb
      split at hb
      · rename_i c hc
        split at hb
        · rename_i l2 hl2
          cases hb
          obtain ⟨ns, h1, h2⟩ := ih _ _ hl2 hr
          unfold byteOf at hc
          split at hc
          · rename_i n
            cases hc
            rw [hv.inv_int]
            exact ⟨(n : Int) :: ns, by simp [h1], by simp [h2]⟩
          · cases hc
        · cases hb
      · cases hb
  unfold bytesStr at hx
  split at hx
  · rename_i a n c
    obtain ⟨m, l, l', hg, hk, hl, hlen, hr⟩ := cellsIn_sound (P := P) hH hv (fun n => Nat.le_refl n) hx
    have hm : m = n := by
      rcases hk with ⟨a', c', h⟩ | ⟨s, h, _⟩
      · cases h; rfl
      · cases h
    subst hm
    split at hg
    · rename_i b hb
      obtain ⟨ns, h1, h2⟩ := bytes l b l' hb hl
      refine ⟨_, .string ⟨b.toArray⟩, hg, .str _, ?_⟩
      cases a with
      | none =>
        cases hv
        rw [run_convert_bytes_nil w s e hs he 0 0 d hd]
        have : l = [] := List.length_eq_zero_iff.1 (by simpa using hlen)
        subst this
        simp [bytesL_nil] at hb; subst hb; rfl
      | some a =>
        have hx' : ∃ A cap, x' = .slice (some A) m cap := by
          cases hv <;> exact ⟨_, _, rfl⟩
        obtain ⟨A, cap, rfl⟩ := hx'
        have hr' : (loadCells A m).run P w = .ok (ns.map (Value.int .u8)).toArray w := by
          have := hr w (fun _ _ => rfl)
          simp only [Builtin.firstCells, Nat.mul_one] at this
          rw [this, h1]
        rw [run_convert_bytes_string w s d e (some A) m cap hs he hd, run_bytesToString w A m cap ns hr', foldl_push_bytes, h2]
        simp [ByteArray.empty, ByteArray.emptyWithCapacity]
        rfl
    · cases hg
  · cases hx
end
end
end Go.Ev
