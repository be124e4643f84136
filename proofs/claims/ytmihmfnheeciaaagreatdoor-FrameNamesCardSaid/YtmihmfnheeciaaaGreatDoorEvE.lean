/- Part of a shadow evaluator for the program's form, proved sound over the kit's rules: a means for closed calls. No condition. -/
import Derived.OrdersIn
import Derived.Test.YtmihmfnheeciaaaGreatDoorEvD
set_option linter.unusedVariables false
set_option linter.unusedSimpArgs false
namespace Go.Ev
open Go
noncomputable section

/-! ### What an operation looks at -/
def useO : Opd → List Nat
  | .t n => [n]
  | _ => []
def useOs : List Opd → List Nat
  | [] => []
  | x :: r => useO x ++ useOs r
def useOo : Option Opd → List Nat
  | none => []
  | some x => useO x
def useP : List (Nat × Nat × Opd) → List Nat
  | [] => []
  | p :: r => useO p.2.2 ++ useP r
def use1 : L1 → List Nat
  | .capL x | .slData x | .toUn x | .fromUn _ _ x
  | .mov x | .load _ x | .nilCheck x | .un _ x | .convI _ x | .convS x | .bytesStr x | .mkIface _ x | .fieldAddr _ x | .field _ _ x | .lenS x | .lenL x | .extract x _ | .typeAssert _ _ _ x => useO x
  | .pick c a b => useO c ++ (useO a ++ useO b)
  | .build _ ps => useP ps
  | .bin _ x y | .eq _ _ x y | .binA _ _ x y | .idxAddrS _ x y | .idxAddrA _ _ x y | .idxA _ _ _ x y | .idxStr x y => useO x ++ useO y
  | .mkFunc _ a b => useOs a ++ useOs b
  | .sliceStr x a b => useO x ++ (useOo a ++ useOo b)
  | .sliceSl _ x a b c => useO x ++ (useOo a ++ (useOo b ++ useOo c))
  | .sliceArr _ _ x a b c => useO x ++ (useOo a ++ (useOo b ++ useOo c))
  | .lenC _ => []
  | .max x xs | .min x xs => useO x ++ useOs xs
def use2 : L2 → List Nat
  | .alloc _ _ => []
  | .box x | .strBytes x | .rangeStr x => useO x
  | .buildSlice _ _ ps => useP ps
  | .makeSlice _ _ _ x y => useO x ++ useO y
def use3 : L3 → List Nat
  | .store _ x y | .append _ _ _ x y | .copy _ x y | .appendZ _ _ _ _ x y => useO x ++ useO y
  | .call _ l => useOs l
  | .callV x l | .defer x l => useO x ++ useOs l
  | .panic x | .nextStr x | .clear _ x => useO x
  | .mkMap => []
  | .mapGet _ _ _ x y | .unStr _ x y => useO x ++ useO y
  | .mapSet _ x y v => useO x ++ (useO y ++ useO v)
def useI : I → List Nat
  | .a i => use1 i
  | .b i => use2 i
  | .c i => use3 i

section
variable {E F : Env}
theorem ev_congr {x : Opd} (h : ∀ t ∈ useO x, gt E t = gt F t) : ev E x = ev F x := by
  cases x <;> simp_all [ev, useO]
theorem evs_congr : ∀ {l : List Opd}, (∀ t ∈ useOs l, gt E t = gt F t) → evs E l = evs F l := by
  intro l
  induction l with
  | nil => intro _; rfl
  | cons x r ih =>
    intro h
    simp only [useOs, List.mem_append] at h
    simp only [evs_cons]
    rw [ev_congr fun t ht => h t (.inl ht), ih fun t ht => h t (.inr ht)]
theorem evo_congr {x : Option Opd} (h : ∀ t ∈ useOo x, gt E t = gt F t) : evo E x = evo F x := by
  cases x with
  | none => rfl
  | some x => simp only [evo]; rw [ev_congr h]
theorem evp_congr : ∀ {l : List (Nat × Nat × Opd)}, (∀ t ∈ useP l, gt E t = gt F t) → evp E l = evp F l := by
  intro l
  induction l with
  | nil => intro _; rfl
  | cons x r ih =>
    intro h
    simp only [useP, List.mem_append] at h
    simp only [evp]
    rw [ev_congr fun t ht => h t (.inl ht), ih fun t ht => h t (.inr ht)]
theorem ev1_congr {i : L1} (hh : ∀ t ∈ use1 i, gt E t = gt F t) (h : H) (f : Value → R) : ev1 i E h f = ev1 i F h f := by
  cases i <;> simp only [use1, List.mem_append] at hh <;> simp only [ev1] <;> first
    | rfl
    | (rw [ev_congr hh]; done)
    | (rw [evp_congr hh]; done)
    | (rw [ev_congr fun t ht => hh t (.inl ht), ev_congr fun t ht => hh t (.inr ht)]; done)
    | (rw [evs_congr fun t ht => hh t (.inl ht), evs_congr fun t ht => hh t (.inr ht)]; done)
    | (rw [ev_congr fun t ht => hh t (.inl ht), evs_congr fun t ht => hh t (.inr ht)]; done)
    | (rw [ev_congr fun t ht => hh t (.inl ht), ev_congr fun t ht => hh t (.inr (.inl ht)), ev_congr fun t ht => hh t (.inr (.inr ht))]; done)
    | (rw [ev_congr fun t ht => hh t (.inl ht), evo_congr fun t ht => hh t (.inr (.inl ht)), evo_congr fun t ht => hh t (.inr (.inr ht))]; done)
    | (rw [ev_congr fun t ht => hh t (.inl ht), evo_congr fun t ht => hh t (.inr (.inl ht)), evo_congr fun t ht => hh t (.inr (.inr (.inl ht))), evo_congr fun t ht => hh t (.inr (.inr (.inr ht)))]; done)
    | (rename_i b _ _; cases b <;> simp only [ev1] <;> rw [ev_congr fun t ht => hh t (.inl ht), ev_congr fun t ht => hh t (.inr ht)]; done)
    | (rename_i b _ _ _; cases b <;> simp only [ev1] <;> rw [ev_congr fun t ht => hh t (.inl ht), ev_congr fun t ht => hh t (.inr ht)]; done)
theorem ev2_congr {i : L2} (hh : ∀ t ∈ use2 i, gt E t = gt F t) (h : H) (k : KV) : ev2 i E h k = ev2 i F h k := by
  cases i <;> simp only [use2, List.mem_append] at hh <;> simp only [ev2] <;> first
    | rfl
    | (rw [ev_congr hh]; done)
    | (rw [evp_congr hh]; done)
    | (rw [ev_congr fun t ht => hh t (.inl ht), ev_congr fun t ht => hh t (.inr ht)]; done)
theorem ev3_congr {call : Call} {i : L3} (hh : ∀ t ∈ use3 i, gt E t = gt F t) (h : H) (d : D) (k : Value → H → D → R) (kP : KV) : ev3 call i E h d k kP = ev3 call i F h d k kP := by
  cases i <;> simp only [use3, List.mem_append] at hh <;> simp only [ev3] <;> first
    | rfl
    | (rw [ev_congr fun t ht => hh t (.inl ht), ev_congr fun t ht => hh t (.inr (.inl ht)), ev_congr fun t ht => hh t (.inr (.inr ht))]; done)
    | (rw [ev_congr hh]; done)
    | (rw [evs_congr hh]; done)
    | (rw [ev_congr fun t ht => hh t (.inl ht), ev_congr fun t ht => hh t (.inr ht)]; done)
    | (rw [ev_congr fun t ht => hh t (.inl ht), evs_congr fun t ht => hh t (.inr ht)]; done)
end

/-! ### Which of them look at memory -/
def reads : L1 → Bool
  | .load .. | .bytesStr _ | .toUn _ | .fromUn .. => true
  | _ => false
theorem ev1_blind {i : L1} (hr : reads i = false) (E : Env) (h g : H) (f : Value → R) : ev1 i E h f = ev1 i E g f := by
  cases i <;> first
    | rfl
    | (cases hr; done)
    | (rename_i b _ _; cases b <;> rfl; done)
    | (rename_i b _ _ _; cases b <;> rfl; done)
theorem ev1_more {i : L1} {E : Env} {h g : H} {f : Value → R} {out : Value} (hs : ∀ k e, look h.es k = some e → look g.es k = some e) (hx : ev1 i E h f = some out) : ev1 i E g f = some out := by
  have ca : ∀ {b : Nat} {k : Tr → Nat → Bool → FT → R}, cellsAt h b k = some out → cellsAt g b k = some out := fun {b k} hh => by
    unfold cellsAt at hh ⊢
    split at hh
    · rename_i he; rw [hs _ _ he]; exact hh
    · cases hh
  by_cases hr : reads i = false
  · rw [ev1_blind hr E g h]; exact hx
  · cases i <;> try (exact absurd rfl hr)
    case load n a =>
      simp only [ev1] at hx ⊢
      unfold load at hx ⊢
      cases n <;> simp only at hx ⊢
      · unfold load1 addr at hx ⊢
        split at hx
        · split at hx
          · exact ca hx
          · cases hx
        · cases hx
      · unfold loadN addr at hx ⊢
        split at hx
        · split at hx
          · exact ca hx
          · cases hx
        · cases hx
    case toUn x =>
      simp only [ev1] at hx ⊢
      unfold toUn addr at hx ⊢
      split at hx
      · split at hx
        · dsimp only at hx ⊢
          split at hx
          · rename_i he; rw [hs _ _ he]; exact hx
          · cases hx
        · cases hx
      · cases hx
    case fromUn u n x =>
      simp only [ev1] at hx ⊢
      unfold fromUn addr at hx ⊢
      split at hx
      · split at hx
        · dsimp only at hx ⊢
          split at hx
          · rename_i he; rw [hs _ _ he]; exact hx
          · cases hx
        · cases hx
      · cases hx
    case bytesStr x =>
      simp only [ev1] at hx ⊢
      cases hv : ev E x <;> simp only [hv, bytesStr] at hx ⊢ <;> try (cases hx; done)
      rename_i a n c
      unfold cellsIn at hx ⊢
      cases a with
      | none => exact hx
      | some a =>
        simp only at hx ⊢
        cases hsp : a.spot with
        | some _ => rw [hsp] at hx; cases hx
        | none =>
          rw [hsp] at hx
          simp only at hx ⊢
          cases hn : Nat.beq n 0 with
          | true => rw [hn] at hx; exact hx
          | false => rw [hn] at hx; exact ca hx

/-! ### New blocks, told apart from memory -/
inductive VF | ptr | sl (n c : Nat)
def VF.at : VF → Nat → Value
  | .ptr, b => mkPtr b 0
  | .sl n c, b => .slice (some ⟨b, 0, none⟩) n c
def cellsE (ty : Option TypeId) (ex : Bool) (l : List Value) : Option Ent := match allB atom l with
  | true => some (.cells (Tr.ofList l) l.length false ⟨!anyPtr l, ty, 0, ex⟩)
  | false => none
def fillO (cells : List Value) : List (Nat × Nat × Value) → Option (List Value)
  | [] => some cells
  | p :: r => (match Nat.beq (cellsOf p.2.2).length p.2.1 && Nat.ble (Nat.add p.1 p.2.1) cells.length with
    | true => (match allB atom (cellsOf p.2.2) with
      | true => fillO (fillL cells p.1 (cellsOf p.2.2)) r
      | false => none)
    | false => none)
def mk2 (i : L2) (env : Env) : Option (VF × Ent) := match i with
  | .alloc t zs => (cellsE t true zs).map fun e => (.ptr, e)
  | .box x => (cellsE none false (cellsOf (ev env x))).map fun e => (.ptr, e)
  | .buildSlice n zs ps => (match fillO zs (evp env ps) with | some l => (cellsE none false l).map fun e => (.sl n (Nat.mul 2 n), e) | none => none)
  | .makeSlice e zs bytes l c => (match ev env l with
    | .int _ (.ofNat l) => (match ev env c with
      | .int _ (.ofNat c) => (match Nat.ble l c && Nat.ble c 9223372036854775807 && Nat.ble (Nat.mul c bytes) 140737488355328 with
        | true => (cellsE (some e) false (repL zs c)).map fun e => (.sl l (Nat.mul 2 c), e)
        | false => none)
      | _ => none)
    | _ => none)
  | .strBytes x => (match ev env x with
    | .string s => (cellsE none false (u8L s.data.toList)).map fun e => (.sl s.size 3, e)
    | _ => none)
  | .rangeStr x => (match ev env x with
    | .string s => some (.ptr, .iter s 0)
    | _ => none)
def put2 (h : H) (e : Ent) : H := { es := (h.nx, e) :: h.es, nx := Nat.succ h.nx, low := h.low }
def of2 (m : Option (VF × Ent)) (h : H) (k : KV) : R := match m with
  | some p => k (p.1.at h.nx) (put2 h p.2)
  | none => none
theorem newCells_E (ty : Option TypeId) (ex : Bool) (h : H) (l : List Value) (k : Nat → H → R) : newCells ty 0 ex h l k = match cellsE ty ex l with | some e => k h.nx (put2 h e) | none => none := by
  unfold newCells cellsE
  cases allB atom l <;> rfl
theorem fillP_O (f : List Value → R) : ∀ (ps : List (Nat × Nat × Value)) (cells : List Value), fillP cells ps f = match fillO cells ps with | some l => f l | none => none := by
  intro ps
  induction ps with
  | nil => intro cells; rfl
  | cons p r ih =>
    intro cells
    simp only [fillP, fillO]
    cases Nat.beq (cellsOf p.2.2).length p.2.1 && Nat.ble (Nat.add p.1 p.2.1) cells.length with
    | false => rfl
    | true =>
      cases allB atom (cellsOf p.2.2) with
      | false => rfl
      | true => exact ih _
theorem ev2_mk (i : L2) (env : Env) (h : H) (k : KV) : ev2 i env h k = of2 (mk2 i env) h k := by
  cases i with
  | alloc t zs => simp only [ev2, alloc, mk2, newCells_E]; cases cellsE t true zs <;> rfl
  | box x => simp only [ev2, box, mk2, newCells_E]; cases cellsE none false (cellsOf (ev env x)) <;> rfl
  | buildSlice n zs ps =>
    simp only [ev2, buildSlice, mk2, fillP_O]
    cases fillO zs (evp env ps) with
    | none => rfl
    | some l => simp only [newCells_E]; cases cellsE none false l <;> rfl
  | makeSlice e zs bytes l c =>
    simp only [ev2, makeSlice, mk2]
    cases ev env l <;> try rfl
    rename_i k1 l
    cases l <;> try rfl
    cases ev env c <;> try rfl
    rename_i l k2 c
    cases c <;> try rfl
    rename_i c
    simp only [newCells_E]
    cases Nat.ble l c && Nat.ble c 9223372036854775807 && Nat.ble (Nat.mul c bytes) 140737488355328 with
    | false => rfl
    | true => cases cellsE (some e) false (repL zs c) <;> rfl
  | strBytes x =>
    simp only [ev2, strBytes, mk2]
    cases ev env x <;> try rfl
    rename_i s
    simp only [newCells_E]
    cases cellsE none false (u8L s.data.toList) <;> rfl
  | rangeStr x =>
    simp only [ev2, rangeStr, mk2]
    cases ev env x <;> rfl
end
end Go.Ev

namespace Go.Ev
open Go
noncomputable section

theorem VRel.meet {φ : Phi} {N M : Nat} {p q : Pl} (hNM : N ≠ M) (hN : φ N = none) (hM : φ M = none) {ψ : Phi} (hψ : ψ = φ.put N p) {v v' : Value} (h : VRel ψ v v') : ∀ {v'' : Value}, VRel (φ.put M q) v v'' → VRel φ v v' := by
  have key : ∀ {b : Nat} {r s : Pl}, ψ b = some r → (φ.put M q) b = some s → φ b = some r := fun {b r s} h1 h2 => by
    subst hψ
    by_cases hb : b = N
    · subst hb
      rw [Phi.put_other φ q hNM, hN] at h2; cases h2
    · rw [Phi.put_other φ p hb] at h1; exact h1
  have lists : ∀ {l l' l'' : List Value}, l.length = l'.length → l.length = l''.length → (∀ (i : Nat) v v', l[i]? = some v → l'[i]? = some v' → ∀ {v'' : Value}, VRel (φ.put M q) v v'' → VRel φ v v') →
      (∀ (i : Nat) v v', l[i]? = some v → l''[i]? = some v' → VRel (φ.put M q) v v') → ∀ (i : Nat) v v', l[i]? = some v → l'[i]? = some v' → VRel φ v v' := fun {l l' l''} e1 e2 ih h2 i v v' a b => by
    have hi : i < l''.length := by have := (List.getElem?_eq_some_iff.1 a).1; omega
    exact ih i v v' a b (h2 i v _ a (List.getElem?_eq_getElem hi))
  induction h with
  | unk v => intro v'' h2; exact .unk v
  | bool b => intro v'' h2; exact .bool b
  | int k n => intro v'' h2; exact .int k n
  | str s => intro v'' h2; exact .str s
  | nilP => intro v'' h2; exact .nilP
  | ptr h => intro v'' h2; cases h2 with | ptr h2 => exact .ptr (key h h2)
  | nilS => intro v'' h2; exact .nilS
  | sl h hc hn => intro v'' h2; cases h2 with
      | sl h2 _ _ => exact .sl (key h h2) hc hn
      | sl0 h2 _ _ => exact .sl (key h h2) hc hn
  | sl0 h h0 hc => intro v'' h2; cases h2 with
      | sl h2 _ _ => exact .sl0 (key h h2) h0 hc
      | sl0 h2 _ _ => exact .sl0 (key h h2) h0 hc
  | fn f h1 _ h3 _ ih2 ih4 => intro v'' h2; cases h2 with | fn _ g1 g2 g3 g4 => exact .fn f h1 (lists h1 g1 ih2 g2) h3 (lists h3 g3 ih4 g4)
  | yield h => intro v'' h2; cases h2 with | yield h2 => exact .yield (key h h2)
  | nilF => intro v'' h2; exact .nilF
  | mp h => intro v'' h2; cases h2 with | mp h2 => exact .mp (key h h2)
  | nilI => intro v'' h2; exact .nilI
  | nilM => intro v'' h2; exact .nilM
  | iface t _ ih => intro v'' h2; cases h2 with | iface _ h2 => exact .iface t (ih h2)
  | agg h1 _ ih => intro v'' h2; cases h2 with | agg g1 g2 => exact .agg h1 (lists h1 g1 ih g2)
  | tuple h1 _ ih => intro v'' h2; cases h2 with | tuple g1 g2 => exact .tuple h1 (lists h1 g1 ih g2)

section
variable {P : Program} {LB : LBody} {φ : Phi} {w : World} {env : Env} {a : Act}

theorem l2_at (hG : GRel P φ) (hE : LRel φ env a.tmps.toList) {i : L2} {dst : Option Tmp} {op : Op} {ty : TypeId} {pos : String} {af : Array Edge} {gd : Option (Nat × Bool)} {vf : VF} {e : Ent}
    (hd : d2 P op = some i) (hm : mk2 i env = some (vf, e)) (N : Nat) (hN : ∀ i, N ≤ i → φ i = none) :
    ∃ v' u p, (execOp a.eval { dst, op, type := ty, pos, after := af, guard := gd }).run P w = .ok (.value v') u ∧ VRel (φ.put N p) (vf.at N) v' ∧ ERel LB (φ.put N p) e p u ∧
      w.heap.size ≤ p.b ∧ (∀ b, b < w.heap.size → u.heap[b]? = w.heap[b]?) ∧ w.heap.size ≤ u.heap.size ∧ u.os = w.os ∧ u.tape = w.tape ∧ u.output = w.output := by
  classical
  have hH : HRel LB φ { es := [], nx := N, low := 0 } w := ⟨hN, fun i e he => (by cases he), fun i j e e' p q he => (by cases he)⟩
  obtain ⟨v, v', g, ψ, u, h1, h2, h3, h4⟩ := d2_sound (dst := dst) (ty := ty) (pos := pos) (af := af) (gd := gd) (w := w) (out := undef)
    (k := fun v g => if v = vf.at N ∧ g = put2 { es := [], nx := N, low := 0 } e then some undef else none) hH hG hE hd (by rw [ev2_mk, hm]; simp [of2])
  split at h1
  · rename_i hvg
    obtain ⟨rfl, rfl⟩ := hvg
    obtain ⟨p, hp, he⟩ := h3.rel.live N e (by show look [(N, e)] N = _; rw [look_cons, if_pos rfl])
    have hψ : ψ = φ.put N p := by
      funext i
      by_cases hi : i = N
      · subst hi; rw [hp, Phi.put_same]
      · rw [Phi.put_other φ p hi]
        by_cases hlt : i < N
        · exact h3.ext.same i hlt
        · rw [hN i (by omega)]; exact h3.rel.fresh i (show Nat.succ N ≤ i by omega)
    subst hψ
    refine ⟨v', u, p, h4, h2, he, ?_, fun b hb => (h3.ext.keep b hb fun ⟨i, e, q, x, _⟩ => (by cases x)).1, h3.ext.size, h3.ext.os, h3.ext.tape, h3.ext.output⟩
    apply Nat.le_of_not_lt
    intro hlt
    refine h3.ext.img p.b hlt (fun ⟨i, e, q, x, _⟩ => (by cases x)) ⟨N, e, p, ?_, hp, rfl⟩
    show look [(N, e)] N = _
    rw [look_cons, if_pos rfl]
  · cases h1

/-- a new block may be given whatever name is free -/
theorem l2_late (hG : GRel P φ) (hE : LRel φ env a.tmps.toList) {i : L2} {dst : Option Tmp} {op : Op} {ty : TypeId} {pos : String} {af : Array Edge} {gd : Option (Nat × Bool)} {vf : VF} {e : Ent}
    (hd : d2 P op = some i) (hm : mk2 i env = some (vf, e)) {N : Nat} (hN : ∀ i, N ≤ i → φ i = none) :
    ∃ v' u p, (execOp a.eval { dst, op, type := ty, pos, after := af, guard := gd }).run P w = .ok (.value v') u ∧ (∀ b ψ, φ.le ψ → ψ b = some p → VRel ψ (vf.at b) v' ∧ ERel LB ψ e p u) ∧
      w.heap.size ≤ p.b ∧ (∀ b, b < w.heap.size → u.heap[b]? = w.heap[b]?) ∧ w.heap.size ≤ u.heap.size ∧ u.os = w.os ∧ u.tape = w.tape ∧ u.output = w.output := by
  obtain ⟨v', u, p, h1, h2, h3, h4⟩ := l2_at (LB := LB) (w := w) (dst := dst) (ty := ty) (pos := pos) (af := af) (gd := gd) hG hE hd hm N hN
  obtain ⟨v2, u2, p2, g1, g2, g3, g4⟩ := l2_at (LB := LB) (w := w) (dst := dst) (ty := ty) (pos := pos) (af := af) (gd := gd) hG hE hd hm (N + 1) (fun i hi => hN i (by omega))
  rw [h1] at g1
  cases g1
  refine ⟨v', u, p, h1, fun b ψ hle hb => ⟨?_, ?_⟩, h4⟩
  · cases vf with
    | ptr =>
      obtain ⟨r, hr, _, rfl⟩ := h2.inv_ptr
      have hr : (φ.put N p) N = some r := hr
      rw [Phi.put_same] at hr; cases hr
      exact .ptr hb
    | sl n c =>
      cases h2 with
      | sl hr hc hn => rw [Phi.put_same] at hr; cases hr; exact .sl hb hc hn
      | sl0 hr h0 hc => rw [Phi.put_same] at hr; cases hr; exact .sl0 hb h0 hc
  · cases e with
    | cells c size ro fl =>
      obtain ⟨cs, t, fr, q1, q2, q3, q4, q5⟩ := h3
      obtain ⟨cs2, t2, fr2, _, _, _, _, r5⟩ := g3
      refine ⟨cs, t, fr, q1, q2, q3, q4, fun i v hv => ?_⟩
      obtain ⟨x1, x2, x3, x4, x5⟩ := q5 i v hv
      obtain ⟨_, _, y3, _, y5⟩ := r5 i v hv
      exact ⟨x1, x2, x3, x4, (x5.meet (Nat.ne_of_lt (Nat.lt_succ_self N)) (hN N (Nat.le_refl _)) (hN (N + 1) (Nat.le_succ _)) rfl y5).mono hle⟩
    | iter s pos => exact h3
    | loop rb env pend done =>
      exfalso
      cases i <;> simp only [mk2, cellsE] at hm <;> (repeat (split at hm)) <;> first | (cases hm; done) | (simp at hm; done)
    | dfr => exact h3
    | mp l =>
      exfalso
      cases i <;> simp only [mk2, cellsE] at hm <;> (repeat (split at hm)) <;> first | (cases hm; done) | (simp at hm; done)
end

/-! ### Some of what the shadow has is not there yet -/
structure HRelU (LB : LBody) (φ : Phi) (h : H) (w : World) : Prop where
  fresh : ∀ i, h.nx ≤ i → φ i = none
  live : ∀ i e p, look h.es i = some e → φ i = some p → ERel LB φ e p w
  inj : ∀ i j e e' p q, look h.es i = some e → look h.es j = some e' → φ i = some p → φ j = some q → p.b = q.b → i = j
theorem HRel.u {LB : LBody} {φ : Phi} {h : H} {w : World} (k : HRel LB φ h w) : HRelU LB φ h w :=
  ⟨k.fresh, fun i e p he hp => let ⟨q, h1, h2⟩ := k.live i e he; by rw [hp] at h1; cases h1; exact h2, k.inj⟩
theorem HRelU.full {LB : LBody} {φ : Phi} {h : H} {w : World} (k : HRelU LB φ h w) (hf : ∀ i e, look h.es i = some e → φ i ≠ none) : HRel LB φ h w :=
  ⟨k.fresh, fun i e he => match hp : φ i with
    | none => (hf i e he hp).elim
    | some p => ⟨p, rfl, k.live i e p he hp⟩, k.inj⟩
theorem HRelU.part {LB : LBody} {φ : Phi} {h : H} {w : World} (k : HRelU LB φ h w) {es : List (Nat × Ent)} {low nx : Nat} (hnx : h.nx ≤ nx) (hs : ∀ i e, look es i = some e → look h.es i = some e) : HRelU LB φ { es, nx, low } w :=
  ⟨fun i hi => k.fresh i (Nat.le_trans hnx hi), fun i e p he hp => k.live i e p (hs i e he) hp, fun i j e e' p q x y => k.inj i j e e' p q (hs _ _ x) (hs _ _ y)⟩
/-- a step of a part of memory, the rest set aside -/
theorem frame_u {LB : LBody} {φ ψ : Phi} {h hv g : H} {w u : World} {es : List (Nat × Ent)} {low : Nat} {A : Nat → Prop} (k : HRelU LB φ h w) (hlt : ∀ i e, look h.es i = some e → i < h.nx)
    (hnx : hv.nx = h.nx) (hhv : ∀ i e, look hv.es i = some e → ¬ A i ∧ look h.es i = some e) (s : Step LB φ hv w ψ g u)
    (hes : ∀ i e, look es i = some e → (A i ∧ look h.es i = some e) ∨ look g.es i = some e) :
    HRelU LB ψ { es, nx := g.nx, low } u ∧ Ext φ h w ψ { es, nx := g.nx, low } u := by
  have same : ∀ i e, look h.es i = some e → ψ i = φ i := fun i e he => s.ext.same i (by rw [hnx]; exact hlt i e he)
  have out : ∀ i e p, A i → look h.es i = some e → φ i = some p → ¬ Img φ hv p.b := fun i e p ha he hp ⟨j, e', q, hj, hq, hb⟩ => by
    obtain ⟨n1, n2⟩ := hhv j e' hj
    exact n1 (k.inj j i e' e q p n2 he hq hp hb ▸ ha)
  have old : ∀ i e p, A i → look h.es i = some e → ψ i = some p → φ i = some p ∧ ERel LB φ e p w ∧ u.heap[p.b]? = w.heap[p.b]? ∧ ¬ Img ψ g p.b := fun i e p ha he hp => by
    rw [same i e he] at hp
    have r := k.live i e p he hp
    have n := out i e p ha he hp
    exact ⟨hp, r, (s.ext.keep p.b r.lt fun ho => n ho.img).1, s.ext.img p.b r.lt n⟩
  have le : φ.le ψ := fun i p hp => by
    have : i < h.nx := Nat.lt_of_not_le fun hle => by rw [k.fresh i hle] at hp; cases hp
    rw [s.ext.same i (by omega)]; exact hp
  refine ⟨⟨s.rel.fresh, fun i e p he hp => ?_, fun i j e e' p q he he' hp hq hb => ?_⟩, ⟨fun i hi => s.ext.same i (by omega), by have := s.ext.nx; show h.nx ≤ g.nx; omega, s.ext.size, s.ext.os, s.ext.tape, s.ext.output, fun b hb hno => ?_, fun b hb hno => ?_⟩⟩
  · rcases hes i e he with ⟨ha, he⟩ | he
    · obtain ⟨h1, h2, h3, _⟩ := old i e p ha he hp
      exact h2.keep le h3
    · obtain ⟨q, h1, h2⟩ := s.rel.live i e he
      rw [hp] at h1; cases h1; exact h2
  · rcases hes i e he with ⟨ha, he⟩ | he <;> rcases hes j e' he' with ⟨hb', he'⟩ | he'
    · exact k.inj i j e e' p q he he' (old i e p ha he hp).1 (old j e' q hb' he' hq).1 hb
    · exact ((old i e p ha he hp).2.2.2 ⟨j, e', q, he', hq, hb.symm⟩).elim
    · exact ((old j e' q hb' he' hq).2.2.2 ⟨i, e, p, he, hp, hb⟩).elim
    · exact s.rel.inj i j e e' p q he he' hp hq hb
  · obtain ⟨h1, h2⟩ := s.ext.keep b hb fun ⟨i, e, p, x, y, z, t⟩ => hno ⟨i, e, p, (hhv i e x).2, y, z, t⟩
    refine ⟨h1, fun ⟨i, e, p, x, y, z, t⟩ => ?_⟩
    rcases hes i e x with ⟨ha, he⟩ | he
    · exact hno ⟨i, e, p, he, y, (old i e p ha he z).1, t⟩
    · exact h2 ⟨i, e, p, he, y, z, t⟩
  · have h2 := s.ext.img b hb fun ⟨i, e, p, x, z, t⟩ => hno ⟨i, e, p, (hhv i e x).2, z, t⟩
    rintro ⟨i, e, p, x, z, t⟩
    rcases hes i e x with ⟨ha, he⟩ | he
    · exact hno ⟨i, e, p, he, (old i e p ha he z).1, t⟩
    · exact h2 ⟨i, e, p, he, z, t⟩
/-- what the shadow has had comes to be -/
theorem late_u {LB : LBody} {φ0 φ : Phi} {h0 h : H} {w0 w u : World} {b : Nat} {e : Ent} {p : Pl} (k : HRelU LB φ h w) (x : Ext φ0 h0 w0 φ h w) (h0b : h0.nx ≤ b) (hb : φ b = none) (hbn : b < h.nx)
    (he : look h.es b = some e) (hp : w.heap.size ≤ p.b) (hu : ∀ c, c < w.heap.size → u.heap[c]? = w.heap[c]?) (hs : w.heap.size ≤ u.heap.size) (ho : u.os = w.os) (ht : u.tape = w.tape) (hout : u.output = w.output)
    (hr : ERel LB (φ.put b p) e p u) : HRelU LB (φ.put b p) h u ∧ Ext φ0 h0 w0 (φ.put b p) h u := by
  have lt : ∀ i e q, look h.es i = some e → φ i = some q → q.b < w.heap.size := fun i e q h1 h2 => (k.live i e q h1 h2).lt
  refine ⟨⟨fun i hi => by rw [Phi.put_other φ p (by omega)]; exact k.fresh i hi, fun i e' q h1 h2 => ?_, fun i j e1 e2 q r h1 h2 h3 h4 hqr => ?_⟩,
    ⟨fun i hi => by rw [Phi.put_other φ p (by omega)]; exact x.same i hi, x.nx, Nat.le_trans x.size hs, ho.trans x.os, ht.trans x.tape, hout.trans x.output, fun c hc hno => ?_, fun c hc hno => ?_⟩⟩
  · by_cases hi : i = b
    · subst hi
      rw [Phi.put_same] at h2; cases h2
      rw [he] at h1; cases h1
      exact hr
    · rw [Phi.put_other φ p hi] at h2
      exact (k.live i e' q h1 h2).keep (Phi.le_put hb) (hu _ (lt i e' q h1 h2))
  · by_cases hi : i = b
    · by_cases hj : j = b
      · rw [hi, hj]
      · subst hi
        rw [Phi.put_same] at h3; cases h3
        rw [Phi.put_other φ p hj] at h4
        have := lt j e2 r h2 h4
        omega
    · rw [Phi.put_other φ p hi] at h3
      by_cases hj : j = b
      · subst hj
        rw [Phi.put_same] at h4; cases h4
        have := lt i e1 q h1 h3
        omega
      · rw [Phi.put_other φ p hj] at h4
        exact k.inj i j e1 e2 q r h1 h2 h3 h4 hqr
  · obtain ⟨h1, h2⟩ := x.keep c hc hno
    have := x.size
    refine ⟨(hu c (by omega)).trans h1, fun ⟨i, e', q, a1, a2, a3, a4⟩ => ?_⟩
    by_cases hi : i = b
    · subst hi; rw [Phi.put_same] at a3; cases a3; omega
    · rw [Phi.put_other φ p hi] at a3; exact h2 ⟨i, e', q, a1, a2, a3, a4⟩
  · have h2 := x.img c hc hno
    have := x.size
    rintro ⟨i, e', q, a1, a3, a4⟩
    by_cases hi : i = b
    · subst hi; rw [Phi.put_same] at a3; cases a3; omega
    · rw [Phi.put_other φ p hi] at a3; exact h2 ⟨i, e', q, a1, a3, a4⟩
end
end Go.Ev

namespace Go.Ev
open Go
noncomputable section

/-! ### Operations of a region -/
def oDst : O → Option Nat
  | .o d _ => some d
  | .n _ => none
  | .g _ _ d _ => some d
def oI : O → I
  | .o _ i => i
  | .n i => i
  | .g _ _ _ i => i
def oG : O → Option (Nat × Bool)
  | .g t w _ _ => some (t, w)
  | _ => none
def useAll (o : O) : List Nat := (match oG o with | some p => [p.1] | none => []) ++ useI (oI o)
def guardB (o : O) (E : Env) (x y : Unit → R) : R := match o with
  | .g t want _ _ => isB (gt E t) want x y
  | _ => x ()
def wantB (E : Env) (o : O) : Option Bool := match oG o with
  | none => some true
  | some p => match gt E p.1 with
    | .bool b => some (b == p.2)
    | .tuple _ => some false
    | _ => none
def setD (o : O) (v : Value) (E : Env) : Env := match oDst o with
  | some d => E.set d v
  | none => E
def blk : Value → Option Nat
  | .pointer (some a) => some a.block
  | .slice (some a) _ _ => some a.block
  | _ => none
def memb (i : Nat) (l : List Nat) : Bool := List.rec false (fun j _ ih => Bool.rec ih true (Nat.beq i j)) l
theorem memb_nil (i : Nat) : memb i [] = false := rfl
theorem memb_cons (i j : Nat) (r : List Nat) : memb i (j :: r) = match Nat.beq i j with | true => true | false => memb i r := by
  show (Bool.rec (memb i r) true (Nat.beq i j) : Bool) = _
  cases Nat.beq i j <;> rfl
def hideB (E : Env) : List Nat → List Nat
  | [] => []
  | t :: r => match blk (gt E t) with
    | some b => b :: hideB E r
    | none => hideB E r
def without (bs : List Nat) : List (Nat × Ent) → List (Nat × Ent)
  | [] => []
  | p :: r => match memb p.1 bs with | true => without bs r | false => p :: without bs r
def within (bs : List Nat) : List (Nat × Ent) → List (Nat × Ent)
  | [] => []
  | p :: r => match memb p.1 bs with | true => p :: within bs r | false => within bs r
def hideH (bs : List Nat) (h : H) : H := match bs with
  | [] => h
  | b :: r => { es := without (b :: r) h.es, nx := h.nx, low := h.low }
def aside (bs : List Nat) (h g : H) : H := match bs with
  | [] => g
  | b :: r => { es := within (b :: r) h.es ++ g.es, nx := g.nx, low := g.low }
def veqL (f : Value → Value → Bool) : List Value → List Value → Bool
  | [], [] => true
  | a :: x, b :: y => match f a b with | true => veqL f x y | false => false
  | _, _ => false
/-- the same value, as far as it is looked into -/
def veq : Nat → Value → Value → Bool
  | 0, _, _ => false
  | n + 1, x, y => match x with
    | .int k a => (match y with | .int k' b => (match decide (k = k') with | true => ieq a b | false => false) | _ => false)
    | .bool a => (match y with | .bool b => a == b | _ => false)
    | .string a => (match y with | .string b => beqL a.data.toList b.data.toList | _ => false)
    | .pointer none => (match y with | .pointer none => true | _ => false)
    | .pointer (some ⟨b, o, none⟩) => (match y with | .pointer (some ⟨b', o', none⟩) => (match Nat.beq b b' with | true => Nat.beq o o' | false => false) | _ => false)
    | .slice none l c => (match y with | .slice none l' c' => (match Nat.beq l l' with | true => Nat.beq c c' | false => false) | _ => false)
    | .slice (some ⟨b, o, none⟩) l c => (match y with
      | .slice (some ⟨b', o', none⟩) l' c' => (match Nat.beq b b' with | true => (match Nat.beq o o' with | true => (match Nat.beq l l' with | true => Nat.beq c c' | false => false) | false => false) | false => false)
      | _ => false)
    | .nilFunc => (match y with | .nilFunc => true | _ => false)
    | .nilIface => (match y with | .nilIface => true | _ => false)
    | .iface t v => (match y with | .iface t' v' => (match Nat.beq t t' with | true => veq n v v' | false => false) | _ => false)
    | .agg a => (match y with | .agg b => veqL (veq n) a.toList b.toList | _ => false)
    | .tuple a => (match y with | .tuple b => veqL (veq n) a.toList b.toList | _ => false)
    | .func (.func f) a b => (match y with
      | .func (.func f') a' b' => (match Nat.beq f f' with | true => (match veqL (veq n) a.toList a'.toList with | true => veqL (veq n) b.toList b'.toList | false => false) | false => false)
      | _ => false)
    | _ => false
def same (o : O) (v : Value) (E : Env) : Bool := match oDst o with
  | some d => veq 4 v (gt E d)
  | none => true
def recheck (E : Env) (h : H) (k : Unit → R) : List (O × List Nat) → R
  | [] => k ()
  | p :: r => guardB p.1 E (fun _ => match oI p.1 with
      | .a i => (match ev1 i E (hideH (hideB E p.2) h) some with
        | some v => (match same p.1 v E with
          | true => recheck E h k r
          | false => none)
        | none => none)
      | _ => none) (fun _ => recheck E h k r)
def lightD (o : O) (hide : List Nat) (E : Env) (h : H) (k : Env → H → R) : R := guardB o E (fun _ => match oI o with
    | .a i => (match reads i with
      | true => (match ev1 i E (hideH (hideB E hide) h) some with | some v => k (setD o v E) h | none => none)
      | false => (match ev1 i E h some with | some v => k (setD o v E) h | none => none))
    | .b i => (match oDst o with
      | some t => (match E.has t with
        | true => ev2 i E h fun v h => k (setD o v E) h
        | false => none)
      | none => none)
    | .c _ => none) (fun _ => k (setD o undef E) h)
def maskD : List Nat → Env → Env
  | [], E => E
  | t :: r, E => maskD r (E.set t (.float .f32 0))
def evD (call : Call) (dsts : List Nat) : List DSt → Env → H → D → KN → KX → R
  | [], E, h, d, kn, _ => kn E h d
  | .l o hide :: r, E, h, d, kn, kx => lightD o hide E h fun E h => evD call dsts r E h d kn kx
  | .h o hide re :: r, E, h, d, kn, kx => guardB o E (fun _ => match oI o with
      | .a i => (match ev1 i E (hideH (hideB E hide) h) some with | some v => evD call dsts r (setD o v E) h d kn kx | none => none)
      | .c i => ev3 call i E (hideH (hideB E hide) h) d
        (fun v g d => recheck (setD o v E) (aside (hideB E hide) h g) (fun _ => evD call dsts r (setD o v E) (aside (hideB E hide) h g) d kn kx) re)
        (fun v g => kx (.pan v) (maskD dsts E) g d)
      | _ => none) (fun _ => evD call dsts r (setD o undef E) h d kn kx)

/-! ### The plan -/
def edgesOf (o : Oper) : List Nat := (o.after.toList.filter (Region.binds .any)).map (·.on)
abbrev TB := List (Nat × List Nat)
def lkA (i : Nat) : TB → Option (List Nat)
  | [] => none
  | p :: r => match Nat.beq i p.1 with | true => some p.2 | false => lkA i r
def ins (e : Nat) (l : List Nat) : List Nat := Bool.rec (e :: l) l (memb e l)
def uni (A l : List Nat) : List Nat := List.rec l (fun a _ ih => ins a ih) A
def ancs (tb : TB) : List Nat → Option (List Nat)
  | [] => some []
  | e :: r => match lkA e tb, ancs tb r with
    | some A, some l => some (ins e (uni A l))
    | _, _ => none
structure BS where
  tb : TB
  hs : List Nat
  al : List (Nat × Nat)
  rds : List (Nat × O × List Nat)
  us : List (Nat × List Nat)
def usesOK (dsts : List (Nat × Nat)) (done A us : List Nat) : Bool := dsts.all fun p => !memb p.2 us || (memb p.1 A || !memb p.1 done)
/-- is the result's place read before? -/
def warB (d : Option Nat) (us : List (Nat × List Nat)) : Bool := match d with
  | none => false
  | some t => us.any fun p => memb t p.2
def warOK (A : List Nat) (d : Option Nat) (us : List (Nat × List Nat)) : Bool := match d with
  | none => true
  | some t => us.all fun p => !memb t p.2 || memb p.1 A
def alHide (A : List Nat) : List (Nat × Nat) → List Nat
  | [] => []
  | p :: r => match memb p.1 A with | true => alHide A r | false => p.2 :: alHide A r
def rdRe (A : List Nat) (al : List (Nat × Nat)) : List (Nat × O × List Nat) → List (O × List Nat)
  | [] => []
  | p :: r => match memb p.1 A with | true => rdRe A al r | false => (p.2.1, alHide p.2.2 al) :: rdRe A al r
def dstsOf (ops : Array Oper) (l : List Nat) : List (Nat × Nat) := l.filterMap fun i => ((ops[i]?).bind (·.dst)).map fun t => (i, t)
def nodupB : List Nat → Bool
  | [] => true
  | x :: r => !memb x r && nodupB r
def plan (P : Program) (eqT : TypeId → Option (List SK)) (rnd : Bool) (ops : Array Oper) (dsts : List (Nat × Nat)) : List Nat → BS → Option (List DSt)
  | [], b => if (List.range ops.size).all fun i => memb i (b.tb.map (·.1)) then some [] else none
  | i :: r, b => match ops[i]? with
    | none => none
    | some o => match dO P eqT rnd ops o, ancs b.tb (edgesOf o) with
      | some x, some A => if memb i (b.tb.map (·.1)) || !usesOK dsts (b.tb.map (·.1)) A (useAll x) || !(b.hs.all fun j => memb j A) then none else (match oI x with
        | .a l => (match warB (oDst x) ((i, useAll x) :: b.us) with
          | false => (plan P eqT rnd ops dsts r ⟨(i, A) :: b.tb, b.hs, b.al, if reads l then (i, x, A) :: b.rds else b.rds, (i, useAll x) :: b.us⟩).map fun st => .l x (alHide A b.al) :: st
          | true => (match warOK A (oDst x) b.us with
            | true => (plan P eqT rnd ops dsts r ⟨(i, A) :: b.tb, i :: b.hs, b.al, b.rds, (i, useAll x) :: b.us⟩).map fun st => .h x (alHide A b.al) [] :: st
            | false => none))
        | .b _ => (match oDst x, warB (oDst x) ((i, useAll x) :: b.us) with
          | some t, false => (plan P eqT rnd ops dsts r ⟨(i, A) :: b.tb, b.hs, (i, t) :: b.al, b.rds, (i, useAll x) :: b.us⟩).map fun st => .l x [] :: st
          | _, _ => none)
        | .c _ => (match warOK A (oDst x) b.us with
          | true => (plan P eqT rnd ops dsts r ⟨(i, A) :: b.tb, i :: b.hs, b.al, b.rds, (i, useAll x) :: b.us⟩).map fun st => .h x (alHide A b.al) (rdRe A b.al b.rds) :: st
          | false => none))
      | _, _ => none
def heavyO (P : Program) (eqT : TypeId → Option (List SK)) (o : Oper) : Bool := match dOp P eqT o.op with | some (.c _) => true | _ => false
/-- an order: light operations as soon as may be -/
def order (P : Program) (eqT : TypeId → Option (List SK)) (ops : Array Oper) : Nat → List Nat → List Nat
  | 0, _ => []
  | n + 1, done =>
    let rs := (List.range ops.size).filter fun i => !memb i done && (match ops[i]? with | some o => (edgesOf o).all fun e => memb e done | none => false)
    match rs.find? fun i => (match ops[i]? with | some o => !heavyO P eqT o | none => false) with
    | some i => i :: order P eqT ops n (i :: done)
    | none => match rs with
      | i :: _ => i :: order P eqT ops n (i :: done)
      | [] => []
def drOf (P : Program) (eqT : TypeId → Option (List SK)) (rnd : Bool) (ops : Array Oper) : Option (List Nat × List DSt) :=
  if (P.follows .mixedOrders || !Region.departs ops) && nodupB ((dstsOf ops (List.range ops.size)).map (·.2)) then
    (plan P eqT rnd ops (dstsOf ops (List.range ops.size)) (order P eqT ops ops.size []) ⟨[], [], [], [], []⟩).map fun st => ((dstsOf ops (List.range ops.size)).map (·.2), st)
  else none

/-! ### Small laws -/
theorem memb_iff {i : Nat} {l : List Nat} : memb i l = true ↔ i ∈ l := by
  induction l with
  | nil => simp [memb_nil]
  | cons j r ih =>
    simp only [memb_cons, List.mem_cons]
    cases hb : Nat.beq i j with
    | true => simp [beq_true.1 hb]
    | false =>
      have : i ≠ j := fun e => by rw [beq_true.2 e] at hb; cases hb
      simp [this, ih]
theorem mem_ins {k e : Nat} {l : List Nat} : k ∈ ins e l ↔ k = e ∨ k ∈ l := by
  show k ∈ (Bool.rec (e :: l) l (memb e l) : List Nat) ↔ _
  cases h : memb e l with
  | true =>
    have := memb_iff.1 h
    exact ⟨.inr, fun h => h.elim (fun e' => e' ▸ this) id⟩
  | false => exact List.mem_cons
theorem mem_uni {k : Nat} {A l : List Nat} : k ∈ uni A l ↔ k ∈ A ∨ k ∈ l := by
  induction A with
  | nil => exact ⟨.inr, fun h => h.elim (fun h => by simp at h) id⟩
  | cons a r ih =>
    show k ∈ ins a (uni r l) ↔ _
    rw [mem_ins, ih, List.mem_cons]
    exact ⟨fun h => h.elim (fun h => .inl (.inl h)) (fun h => h.elim (fun h => .inl (.inr h)) .inr), fun h => h.elim (fun h => h.elim .inl fun h => .inr (.inl h)) fun h => .inr (.inr h)⟩
theorem memb_false {i : Nat} {l : List Nat} : memb i l = false ↔ i ∉ l := by
  rw [← memb_iff]; simp
theorem look_without (bs : List Nat) (es : List (Nat × Ent)) (i : Nat) : look (without bs es) i = if i ∈ bs then none else look es i := by
  induction es with
  | nil => simp [without, look_nil]
  | cons p r ih =>
    simp only [without]
    cases hm : memb p.1 bs with
    | true =>
      have hm := memb_iff.1 hm
      simp only [ih, look_cons]
      by_cases hi : i ∈ bs
      · simp [hi]
      · have : i ≠ p.1 := fun e => hi (e ▸ hm)
        simp [hi, this]
    | false =>
      have hm := memb_false.1 hm
      simp only [look_cons, ih]
      by_cases hip : i = p.1
      · simp [hip, hm]
      · simp [hip]
theorem look_within (bs : List Nat) (es : List (Nat × Ent)) (i : Nat) : look (within bs es) i = if i ∈ bs then look es i else none := by
  induction es with
  | nil => simp [within, look_nil]
  | cons p r ih =>
    simp only [within]
    cases hm : memb p.1 bs with
    | true =>
      have hm := memb_iff.1 hm
      simp only [ih, look_cons]
      by_cases hip : i = p.1
      · simp [hip, hm]
      · simp [hip]
    | false =>
      have hm := memb_false.1 hm
      simp only [look_cons, ih]
      by_cases hi : i ∈ bs
      · have : i ≠ p.1 := fun e => hm (e ▸ hi)
        simp [hi, this]
      · simp [hi]
theorem hideH_look (bs : List Nat) (h : H) (i : Nat) : look (hideH bs h).es i = if i ∈ bs then none else look h.es i := by
  cases bs with
  | nil => simp [hideH]
  | cons b r => exact look_without _ _ _
theorem hideH_nx (bs : List Nat) (h : H) : (hideH bs h).nx = h.nx := by cases bs <;> rfl
theorem aside_nx (bs : List Nat) (h g : H) : (aside bs h g).nx = g.nx := by cases bs <;> rfl
theorem aside_look (bs : List Nat) (h g : H) (i : Nat) (e : Ent) (he : look (aside bs h g).es i = some e) : (i ∈ bs ∧ look h.es i = some e) ∨ (look g.es i = some e ∧ (i ∉ bs ∨ look h.es i = none)) := by
  cases bs with
  | nil => exact .inr ⟨he, .inl (by simp)⟩
  | cons b r =>
    have he : look (within (b :: r) h.es ++ g.es) i = some e := he
    rw [look_append, look_within] at he
    by_cases hi : i ∈ b :: r
    · rw [if_pos hi] at he
      split at he
      · rename_i e' he'; cases he; exact .inl ⟨hi, he'⟩
      · rename_i he'; exact .inr ⟨he, .inr he'⟩
    · rw [if_neg hi] at he; exact .inr ⟨he, .inl hi⟩
theorem aside_old (bs : List Nat) (h g : H) (i : Nat) (e : Ent) (hi : i ∈ bs) (he : look h.es i = some e) : look (aside bs h g).es i = some e := by
  cases bs with
  | nil => simp at hi
  | cons b r =>
    show look (within (b :: r) h.es ++ g.es) i = some e
    rw [look_append, look_within, if_pos hi, he]
theorem hideB_mem {E : Env} {ts : List Nat} {k : Nat} : k ∈ hideB E ts ↔ ∃ t ∈ ts, blk (gt E t) = some k := by
  induction ts with
  | nil => simp [hideB]
  | cons t r ih =>
    simp only [hideB]
    cases hb : blk (gt E t) with
    | none =>
      simp only [ih, List.mem_cons]
      exact ⟨fun ⟨s, h1, h2⟩ => ⟨s, .inr h1, h2⟩, fun ⟨s, h1, h2⟩ => by
        rcases h1 with rfl | h1
        · rw [hb] at h2; cases h2
        · exact ⟨s, h1, h2⟩⟩
    | some b =>
      simp only [ih, List.mem_cons]
      constructor
      · rintro (rfl | ⟨s, h1, h2⟩)
        · exact ⟨t, .inl rfl, hb⟩
        · exact ⟨s, .inr h1, h2⟩
      · rintro ⟨s, (rfl | h1), h2⟩
        · rw [hb] at h2; cases h2; exact .inl rfl
        · exact .inr ⟨s, h1, h2⟩
theorem alHide_mem {A : List Nat} {al : List (Nat × Nat)} {i t : Nat} (h : (i, t) ∈ al) (hi : i ∉ A) : t ∈ alHide A al := by
  induction al with
  | nil => cases h
  | cons p r ih =>
    simp only [alHide]
    rcases List.mem_cons.1 h with rfl | h
    · rw [memb_false.2 hi]; exact List.mem_cons_self
    · split
      · exact ih h
      · exact List.mem_cons_of_mem _ (ih h)
theorem alHide_from {A : List Nat} {al : List (Nat × Nat)} {t : Nat} (h : t ∈ alHide A al) : ∃ i, (i, t) ∈ al ∧ i ∉ A := by
  induction al with
  | nil => cases h
  | cons p r ih =>
    simp only [alHide] at h
    split at h
    · obtain ⟨i, h1, h2⟩ := ih h; exact ⟨i, List.mem_cons_of_mem _ h1, h2⟩
    · rename_i hm
      rcases List.mem_cons.1 h with rfl | h
      · exact ⟨p.1, List.mem_cons_self, memb_false.1 hm⟩
      · obtain ⟨i, h1, h2⟩ := ih h; exact ⟨i, List.mem_cons_of_mem _ h1, h2⟩
theorem rdRe_mem {A : List Nat} {al : List (Nat × Nat)} {rds : List (Nat × O × List Nat)} {i : Nat} {x : O} {B : List Nat} (h : (i, x, B) ∈ rds) (hi : i ∉ A) : (x, alHide B al) ∈ rdRe A al rds := by
  induction rds with
  | nil => cases h
  | cons p r ih =>
    simp only [rdRe]
    rcases List.mem_cons.1 h with rfl | h
    · rw [memb_false.2 hi]; exact List.mem_cons_self
    · split
      · exact ih h
      · exact List.mem_cons_of_mem _ (ih h)
theorem veqL_eq {f : Value → Value → Bool} (hf : ∀ x y, f x y = true → x = y) : ∀ {l m : List Value}, veqL f l m = true → l = m := by
  intro l
  induction l with
  | nil => intro m h; cases m with
    | nil => rfl
    | cons _ _ => cases h
  | cons a x ih => intro m h; cases m with
    | nil => cases h
    | cons b y =>
      simp only [veqL] at h
      split at h
      · rename_i h1; rw [hf _ _ h1, ih h]
      · cases h
theorem veq_eq : ∀ (n : Nat) (x y : Value), veq n x y = true → x = y := by
  intro n
  induction n with
  | zero => intro x y h; cases h
  | succ n ih =>
    intro x y h
    have arr : ∀ {a b : Array Value}, veqL (veq n) a.toList b.toList = true → a = b := fun {a b} h => by
      have := veqL_eq ih h
      exact Array.ext' this
    unfold veq at h
    split at h <;> (try (cases h; done)) <;> split at h <;> (try (cases h; done))
    · split at h
      · rename_i hk; rw [of_decide_eq_true hk]; rw [ieq_eq] at h; rw [eq_of_beq h]
      · cases h
    · rw [eq_of_beq h]
    · rename_i a _ b
      rw [beqL_eq] at h
      have h := eq_of_beq h
      have h : a.data = b.data := Array.ext' h
      cases a; cases b; simp at h; rw [h]
    · rfl
    · split at h
      · rename_i hb; rw [beq_true.1 hb, beq_true.1 h]
      · cases h
    · split at h
      · rename_i hb; rw [beq_true.1 hb, beq_true.1 h]
      · cases h
    · split at h
      · rename_i h1
        split at h
        · rename_i h2
          split at h
          · rename_i h3; rw [beq_true.1 h1, beq_true.1 h2, beq_true.1 h3, beq_true.1 h]
          · cases h
        · cases h
      · cases h
    · rfl
    · rfl
    · split at h
      · rename_i hb; rw [show _ = _ from beq_true.1 hb, ih _ _ h]
      · cases h
    · rw [arr h]
    · rw [arr h]
    · split at h
      · rename_i h1
        split at h
        · rename_i h2; rw [show _ = _ from beq_true.1 h1, arr h2, arr h]
        · cases h
      · cases h
end
end Go.Ev

namespace Go.Ev
open Go
noncomputable section

theorem guardB_want (o : O) (E : Env) (x y : Unit → R) : guardB o E x y = match wantB E o with | some true => x () | some false => y () | none => none := by
  cases o with
  | o d i => rfl
  | n i => rfl
  | g t want d i =>
    simp only [guardB, wantB, oG, isB]
    cases gt E t <;> try rfl
    rename_i b
    cases b <;> cases want <;> rfl
theorem gt_set (E : Env) (t s : Nat) (v : Value) : gt (E.set t v) s = if s = t ∧ t < E.length then v else gt E s := by
  rw [gt_eq, gt_eq]
  show (E.l.set t v).getD s undef = if s = t ∧ t < E.l.length then v else E.l.getD s undef
  simp only [List.getD_eq_getElem?_getD, List.getElem?_set]
  by_cases h : t = s
  · subst h
    by_cases hl : t < E.l.length
    · simp [hl]
    · simp [hl]
  · have : s ≠ t := fun e => h e.symm
    simp [h, this]
theorem gt_setD_other {o : O} {v : Value} {E : Env} {s : Nat} (h : oDst o ≠ some s) : gt (setD o v E) s = gt E s := by
  unfold setD
  split
  · rename_i d hd
    rw [gt_set, if_neg]
    rintro ⟨rfl, _⟩
    exact h hd
  · rfl
theorem gt_setD_same {o : O} {v : Value} {E : Env} {s : Nat} (h : oDst o = some s) (hs : s < E.length) : gt (setD o v E) s = v := by
  unfold setD
  rw [h]
  show gt (E.set s v) s = v
  rw [gt_set, if_pos ⟨rfl, hs⟩]
theorem setD_len (o : O) (v : Value) (E : Env) : (setD o v E).length = E.length := by
  unfold setD; split
  · exact Env.length_set _ _ _
  · rfl
theorem wantB_congr {E F : Env} {o : O} (h : ∀ t ∈ useAll o, gt E t = gt F t) : wantB E o = wantB F o := by
  unfold wantB
  cases hg : oG o with
  | none => rfl
  | some p =>
    have : gt E p.1 = gt F p.1 := h p.1 (by unfold useAll; rw [hg]; simp)
    simp only [this]
theorem use_I {o : O} {t : Nat} (h : t ∈ useI (oI o)) : t ∈ useAll o := by unfold useAll; exact List.mem_append_right _ h
theorem mk2_congr {E F : Env} {i : L2} (hh : ∀ t ∈ use2 i, gt E t = gt F t) : mk2 i E = mk2 i F := by
  cases i <;> simp only [use2, List.mem_append] at hh <;> simp only [mk2] <;> first
    | rfl
    | (rw [ev_congr hh]; done)
    | (rw [evp_congr hh]; done)
    | (rw [ev_congr fun t ht => hh t (.inl ht), ev_congr fun t ht => hh t (.inr ht)]; done)

section
variable (P : Program) (eqT : TypeId → Option (List SK)) (rnd : Bool) (ops : Array Oper)
def oAt (i : Nat) : Option O := (ops[i]?).bind (dO P eqT rnd ops)
def Lis (Ls : Array Bool) (i : Nat) : Prop := Ls.getD i false = true
def Dn (Ls : Array Bool) : Prop := ∀ i o, Lis Ls i → ops[i]? = some o → ∀ e ∈ edgesOf o, Lis Ls e
structure El (b : BS) (i : Nat) (A : List Nat) : Prop where
  lt : i < ops.size
  ex : ∃ o x, ops[i]? = some o ∧ dO P eqT rnd ops o = some x ∧ (∀ e ∈ edgesOf o, e ∈ A) ∧ (∀ j t, j ∈ b.tb.map (·.1) → (ops[j]?).bind (·.dst) = some t → t ∈ useAll x → j ∈ A ∨ j ∈ b.hs) ∧
    (∀ l, oI x = .b l → ∃ t, oDst x = some t ∧ (i, t) ∈ b.al) ∧ (∀ l, oI x = .a l → reads l = true → i ∉ b.hs → (i, x, A) ∈ b.rds) ∧ (∀ l, oI x = .c l → i ∈ b.hs) ∧ (i, useAll x) ∈ b.us
  done : ∀ j ∈ A, j ∈ b.tb.map (·.1)
  dn : ∀ Ls, Dn ops Ls → Lis Ls i → ∀ k ∈ A, Lis Ls k
  ni : i ∉ A
def Ord : TB → Prop
  | [] => True
  | p :: r => (∀ j ∈ p.2, j ∈ r.map (·.1)) ∧ Ord r
structure BSOK (b : BS) : Prop where
  el : ∀ i A, (i, A) ∈ b.tb → El P eqT rnd ops b i A
  nd : (b.tb.map (·.1)).Nodup
  ord : Ord b.tb
variable {P eqT rnd ops}
theorem BSOK.at {b : BS} (hb : BSOK P eqT rnd ops b) {i : Nat} (h : i ∈ b.tb.map (·.1)) : ∃ A, (i, A) ∈ b.tb := by
  obtain ⟨p, h1, h2⟩ := List.mem_map.1 h
  exact ⟨p.2, by rw [← h2]; exact h1⟩
theorem lkA_mem {i : Nat} {tb : TB} {A : List Nat} (h : lkA i tb = some A) : (i, A) ∈ tb := by
  induction tb with
  | nil => cases h
  | cons p r ih =>
    simp only [lkA] at h
    split at h
    · rename_i hb; cases h; rw [beq_true.1 hb]; exact List.mem_cons_self
    · exact List.mem_cons_of_mem _ (ih h)
theorem ancs_sound {tb : TB} : ∀ {es : List Nat} {A : List Nat}, ancs tb es = some A → (∀ e ∈ es, e ∈ A ∧ e ∈ tb.map (·.1)) ∧ ∀ k ∈ A, ∃ e ∈ es, k = e ∨ ∃ B, (e, B) ∈ tb ∧ k ∈ B := by
  intro es
  induction es with
  | nil => intro A h; cases h; exact ⟨fun e he => by simp at he, fun k hk => by simp at hk⟩
  | cons e r ih =>
    intro A h
    simp only [ancs] at h
    split at h <;> cases h
    rename_i B l h1 h2
    obtain ⟨q1, q2⟩ := ih h2
    have hm := lkA_mem h1
    refine ⟨fun e' he' => ?_, fun k hk => ?_⟩
    · rcases List.mem_cons.1 he' with rfl | he'
      · exact ⟨mem_ins.2 (.inl rfl), List.mem_map.2 ⟨_, hm, rfl⟩⟩
      · exact ⟨mem_ins.2 (.inr (mem_uni.2 (.inr (q1 e' he').1))), (q1 e' he').2⟩
    · rcases mem_ins.1 hk with rfl | hk
      · exact ⟨_, List.mem_cons_self, .inl rfl⟩
      · rcases mem_uni.1 hk with hk | hk
        · exact ⟨e, List.mem_cons_self, .inr ⟨B, hm, hk⟩⟩
        · obtain ⟨e', h3, h4⟩ := q2 k hk
          exact ⟨e', List.mem_cons_of_mem _ h3, h4⟩
theorem dO_inv {o : Oper} {x : O} (h : dO P eqT rnd ops o = some x) : dOp P eqT o.op = some (oI x) ∧ o.dst = oDst x ∧ (rnd && isDefer (oI x)) = false ∧
    ((oG x = none ∧ o.guard = none) ∨ ∃ j t want, oG x = some (t, want) ∧ o.guard = some (j, want) ∧ (ops[j]?).bind (·.dst) = some t) := by
  unfold dO at h
  split at h
  · cases h
  · rename_i i hi
    split at h
    · cases h
    · rename_i hnd
      split at h
      · rename_i hg hd; cases h; exact ⟨hi, hd, hnd, .inl ⟨rfl, hg⟩⟩
      · rename_i hg hd; cases h; exact ⟨hi, hd, hnd, .inl ⟨rfl, hg⟩⟩
      · rename_i g d hg hd
        split at h <;> cases h
        rename_i t ht
        exact ⟨hi, hd, hnd, .inr ⟨g.1, t, g.2, rfl, hg, ht⟩⟩
      · cases h
theorem warB_false {d : Option Nat} {us : List (Nat × List Nat)} (h : warB d us = false) {k : Nat} {u : List Nat} (hk : (k, u) ∈ us) {s : Nat} (hs : s ∈ u) : d ≠ some s := by
  rintro rfl
  have h : (us.any fun p => memb s p.2) = false := h
  have : (us.any fun p => memb s p.2) = true := List.any_eq_true.2 ⟨_, hk, memb_iff.2 hs⟩
  rw [h] at this; cases this
theorem warOK_true {A : List Nat} {d : Option Nat} {us : List (Nat × List Nat)} (h : warOK A d us = true) {k : Nat} {u : List Nat} (hk : (k, u) ∈ us) {s : Nat} (hs : s ∈ u) (hd : d = some s) : k ∈ A := by
  subst hd
  unfold warOK at h
  have := List.all_eq_true.1 h _ hk
  simp only [Bool.or_eq_true, Bool.not_eq_true'] at this
  rcases this with h1 | h1
  · exact absurd hs (memb_false.1 h1)
  · exact memb_iff.1 h1
/-- what the plan says of its next operation -/
theorem plan_step {dsts : List (Nat × Nat)} (hdsts : ∀ j t, (ops[j]?).bind (·.dst) = some t → (j, t) ∈ dsts) {i : Nat} {r : List Nat} {b : BS} {st : List DSt} (hb : BSOK P eqT rnd ops b) (h : plan P eqT rnd ops dsts (i :: r) b = some st) :
    ∃ o x A b' s st', ops[i]? = some o ∧ dO P eqT rnd ops o = some x ∧ st = s :: st' ∧ plan P eqT rnd ops dsts r b' = some st' ∧ BSOK P eqT rnd ops b' ∧ b'.tb = (i, A) :: b.tb ∧ i ∉ b.tb.map (·.1) ∧ El P eqT rnd ops b' i A ∧
      (∀ j ∈ b.hs, j ∈ A) ∧ (∀ j ∈ A, j ∈ b.tb.map (·.1)) ∧ (∀ j, j ∈ b.hs → j ∈ b'.hs) ∧
      ((((∃ l, oI x = .a l ∧ s = .l x (alHide A b.al) ∧ b'.al = b.al) ∨ (∃ l t, oI x = .b l ∧ oDst x = some t ∧ s = .l x [] ∧ b'.al = (i, t) :: b.al)) ∧ b'.hs = b.hs ∧
          (∀ s ∈ useAll x, oDst x ≠ some s) ∧ ∀ k B y, (k, B) ∈ b.tb → oAt P eqT rnd ops k = some y → ∀ s ∈ useAll y, oDst x ≠ some s) ∨
       (((∃ l, oI x = .c l ∧ s = .h x (alHide A b.al) (rdRe A b.al b.rds)) ∨ (∃ l, oI x = .a l ∧ s = .h x (alHide A b.al) [])) ∧ b'.hs = i :: b.hs ∧
          ∀ k B y, (k, B) ∈ b.tb → oAt P eqT rnd ops k = some y → ∀ s ∈ useAll y, oDst x = some s → k ∈ A)) := by
  simp only [plan] at h
  split at h
  · cases h
  · rename_i o ho
    split at h
    · rename_i x A hx hA
      split at h
      · cases h
      · rename_i hc
        simp only [Bool.or_eq_true, not_or, Bool.not_eq_true, Bool.not_eq_false'] at hc
        obtain ⟨⟨hni, hus⟩, hhs⟩ := hc
        have hni := memb_false.1 hni
        obtain ⟨a1, a2⟩ := ancs_sound hA
        have hlt : i < ops.size := (Array.getElem?_eq_some_iff.1 ho).1
        have hox : oAt P eqT rnd ops i = some x := by unfold oAt; rw [ho]; exact hx
        have hxd : (ops[i]?).bind (·.dst) = oDst x := by rw [ho]; exact (dO_inv hx).2.1
        have hdone : ∀ j ∈ A, j ∈ b.tb.map (·.1) := fun j hj => by
          obtain ⟨e, he, h1⟩ := a2 j hj
          rcases h1 with rfl | ⟨B, hB, hj⟩
          · exact (a1 _ he).2
          · exact (hb.el e B hB).done j hj
        have hdn : ∀ Ls, Dn ops Ls → Lis Ls i → ∀ k ∈ A, Lis Ls k := fun Ls hd hl k hk => by
          obtain ⟨e, he, h1⟩ := a2 k hk
          have := hd i o hl ho e he
          rcases h1 with rfl | ⟨B, hB, hj⟩
          · exact this
          · exact (hb.el e B hB).dn Ls hd this k hj
        have huse : ∀ j t, j ∈ b.tb.map (·.1) → (ops[j]?).bind (·.dst) = some t → t ∈ useAll x → j ∈ A := fun j t hjd hj ht => by
          unfold usesOK at hus
          have := List.all_eq_true.1 hus _ (hdsts j t hj)
          simp only [Bool.or_eq_true, Bool.not_eq_true'] at this
          rcases this with h1 | h1 | h1
          · exact absurd ht (memb_false.1 h1)
          · exact memb_iff.1 h1
          · exact absurd hjd (memb_false.1 h1)
        have hhs' : ∀ j ∈ b.hs, j ∈ A := fun j hj => memb_iff.1 (List.all_eq_true.1 hhs j hj)
        have uso : ∀ k B y, (k, B) ∈ b.tb → oAt P eqT rnd ops k = some y → (k, useAll y) ∈ b.us := fun k B y hk hy => by
          obtain ⟨o', y', k1, k2, _, _, _, _, _, k8⟩ := (hb.el k B hk).ex
          unfold oAt at hy
          rw [k1] at hy
          have hy : dO P eqT rnd ops o' = some y := hy
          rw [k2] at hy; cases hy
          exact k8
        have mk : ∀ (hs : List Nat) (al : List (Nat × Nat)) (rds : List (Nat × O × List Nat)), (∀ j ∈ b.hs, j ∈ hs) → (∀ p ∈ b.al, p ∈ al) → (∀ p ∈ b.rds, p ∈ rds) →
            (∀ l, oI x = .b l → ∃ t, oDst x = some t ∧ (i, t) ∈ al) → (∀ l, oI x = .a l → reads l = true → i ∉ hs → (i, x, A) ∈ rds) → (∀ l, oI x = .c l → i ∈ hs) →
            (i ∈ hs ∨ ((∀ s ∈ useAll x, oDst x ≠ some s) ∧ ∀ k B y, (k, B) ∈ b.tb → oAt P eqT rnd ops k = some y → ∀ s ∈ useAll y, oDst x ≠ some s)) →
            BSOK P eqT rnd ops ⟨(i, A) :: b.tb, hs, al, rds, (i, useAll x) :: b.us⟩ ∧ El P eqT rnd ops ⟨(i, A) :: b.tb, hs, al, rds, (i, useAll x) :: b.us⟩ i A := fun hs al rds m1 m2 m3 e1 e2 e3 e4 => by
          have me : El P eqT rnd ops ⟨(i, A) :: b.tb, hs, al, rds, (i, useAll x) :: b.us⟩ i A := ⟨hlt, ⟨o, x, ho, hx, fun e he => (a1 e he).1, fun j t hjd hj ht => by
            rcases List.mem_cons.1 hjd with rfl | hjd
            · rcases e4 with e4 | e4
              · exact .inr e4
              · exact absurd (hxd.symm.trans hj) (e4.1 t ht)
            · exact .inl (huse j t hjd hj ht), e1, e2, e3, List.mem_cons_self⟩, fun j hj => List.mem_cons_of_mem _ (hdone j hj), hdn, fun hi => hni (hdone i hi)⟩
          refine ⟨⟨fun j B hj => ?_, List.nodup_cons.2 ⟨hni, hb.nd⟩, ⟨hdone, hb.ord⟩⟩, me⟩
          rcases List.mem_cons.1 hj with hj1 | hj1
          · cases hj1; exact me
          · have k := hb.el j B hj1
            obtain ⟨o', x', k1, k2, k3, k4, k5, k6, k7, k8⟩ := k.ex
            refine ⟨k.lt, ⟨o', x', k1, k2, k3, fun j' t hjd' hj' ht => ?_, fun l hl => let ⟨t, q1, q2⟩ := k5 l hl; ⟨t, q1, m2 _ q2⟩, fun l hl hr hn => m3 _ (k6 l hl hr fun hh => hn (m1 _ hh)), fun l hl => m1 _ (k7 l hl), List.mem_cons_of_mem _ k8⟩, fun j' hj' => List.mem_cons_of_mem _ (k.done j' hj'), k.dn, k.ni⟩
            rcases List.mem_cons.1 hjd' with rfl | hjd'
            · rcases e4 with e4 | e4
              · exact .inr e4
              · exact absurd (hxd.symm.trans hj') (e4.2 j B x' hj1 (by unfold oAt; rw [k1]; exact k2) t ht)
            · exact (k4 j' t hjd' hj' ht).imp id (m1 _)
        split at h
        · rename_i l hl
          split at h
          · rename_i hw
            obtain ⟨st', h1, rfl⟩ := map_inv h
            have nw1 : ∀ s ∈ useAll x, oDst x ≠ some s := fun s hs => warB_false hw List.mem_cons_self hs
            have nw2 : ∀ k B y, (k, B) ∈ b.tb → oAt P eqT rnd ops k = some y → ∀ s ∈ useAll y, oDst x ≠ some s := fun k B y hk hy s hs => warB_false hw (List.mem_cons_of_mem _ (uso k B y hk hy)) hs
            obtain ⟨m1, m2⟩ := mk b.hs b.al (if reads l then (i, x, A) :: b.rds else b.rds) (fun _ h => h) (fun _ h => h) (fun p hp => by split; exact List.mem_cons_of_mem _ hp; exact hp)
              (fun l' hl' => by rw [hl] at hl'; cases hl') (fun l' hl' hr _ => by rw [hl] at hl'; cases hl'; rw [if_pos hr]; exact List.mem_cons_self) (fun l' hl' => by rw [hl] at hl'; cases hl') (.inr ⟨nw1, nw2⟩)
            exact ⟨o, x, A, _, _, st', ho, hx, rfl, h1, m1, rfl, hni, m2, hhs', hdone, fun _ h => h, .inl ⟨.inl ⟨l, hl, rfl, rfl⟩, rfl, nw1, nw2⟩⟩
          · split at h
            · rename_i hw
              obtain ⟨st', h1, rfl⟩ := map_inv h
              obtain ⟨m1, m2⟩ := mk (i :: b.hs) b.al b.rds (fun _ h => List.mem_cons_of_mem _ h) (fun _ h => h) (fun _ h => h)
                (fun l' hl' => by rw [hl] at hl'; cases hl') (fun l' hl' hr hn => absurd List.mem_cons_self hn) (fun l' hl' => List.mem_cons_self) (.inl List.mem_cons_self)
              exact ⟨o, x, A, _, _, st', ho, hx, rfl, h1, m1, rfl, hni, m2, hhs', hdone, fun _ h => List.mem_cons_of_mem _ h, .inr ⟨.inr ⟨l, hl, rfl⟩, rfl, fun k B y hk hy s hs hd => warOK_true hw (uso k B y hk hy) hs hd⟩⟩
            · cases h
        · rename_i l hl
          split at h
          · rename_i t ht hw
            obtain ⟨st', h1, rfl⟩ := map_inv h
            have nw1 : ∀ s ∈ useAll x, oDst x ≠ some s := fun s hs => warB_false hw List.mem_cons_self hs
            have nw2 : ∀ k B y, (k, B) ∈ b.tb → oAt P eqT rnd ops k = some y → ∀ s ∈ useAll y, oDst x ≠ some s := fun k B y hk hy s hs => warB_false hw (List.mem_cons_of_mem _ (uso k B y hk hy)) hs
            obtain ⟨m1, m2⟩ := mk b.hs ((i, t) :: b.al) b.rds (fun _ h => h) (fun _ h => List.mem_cons_of_mem _ h) (fun _ h => h)
              (fun l' hl' => ⟨t, ht, List.mem_cons_self⟩) (fun l' hl' hr => by rw [hl] at hl'; cases hl') (fun l' hl' => by rw [hl] at hl'; cases hl') (.inr ⟨nw1, nw2⟩)
            exact ⟨o, x, A, _, _, st', ho, hx, rfl, h1, m1, rfl, hni, m2, hhs', hdone, fun _ h => h, .inl ⟨.inr ⟨l, t, hl, ht, rfl, rfl⟩, rfl, nw1, nw2⟩⟩
          · cases h
        · rename_i l hl
          split at h
          · rename_i hw
            obtain ⟨st', h1, rfl⟩ := map_inv h
            obtain ⟨m1, m2⟩ := mk (i :: b.hs) b.al b.rds (fun _ h => List.mem_cons_of_mem _ h) (fun _ h => h) (fun _ h => h)
              (fun l' hl' => by rw [hl] at hl'; cases hl') (fun l' hl' hr => by rw [hl] at hl'; cases hl') (fun l' hl' => List.mem_cons_self) (.inl List.mem_cons_self)
            exact ⟨o, x, A, _, _, st', ho, hx, rfl, h1, m1, rfl, hni, m2, hhs', hdone, fun _ h => List.mem_cons_of_mem _ h, .inr ⟨.inl ⟨l, hl, rfl⟩, rfl, fun k B y hk hy s hs hd => warOK_true hw (uso k B y hk hy) hs hd⟩⟩
          · cases h
    · cases h
end

/-! ### The shadow ahead -/
section
variable (P : Program) (eqT : TypeId → Option (List SK)) (rnd : Bool) (ops : Array Oper) (LB : LBody) (φ0 : Phi) (h0 : H) (w0 : World)
/-- an allocation that is not there yet -/
def Al (b : BS) (Ls : Array Bool) (E : Env) (k j : Nat) : Prop := ∃ x t l, j ∈ b.tb.map (·.1) ∧ ¬ Lis Ls j ∧ oAt P eqT rnd ops j = some x ∧ oI x = .b l ∧ wantB E x = some true ∧ oDst x = some t ∧ blk (gt E t) = some k
def Pend (b : BS) (Ls : Array Bool) (E : Env) (h : H) (φ : Phi) (A : List Nat) (x : O) : Prop :=
  (wantB E x = some false ∧ ∀ t, oDst x = some t → t < E.length → gt E t = undef) ∨
  (wantB E x = some true ∧ ∃ l v hs, oI x = .a l ∧ ev1 l E hs some = some v ∧ (∀ t, oDst x = some t → t < E.length → gt E t = v) ∧ ∀ k e, look hs.es k = some e → look h.es k = some e ∧ ∀ j, Al P eqT rnd ops b Ls E k j → j ∈ A) ∨
  (wantB E x = some true ∧ ∃ l vf e k t, oI x = .b l ∧ mk2 l E = some (vf, e) ∧ oDst x = some t ∧ t < E.length ∧ gt E t = vf.at k ∧ look h.es k = some e ∧ φ k = none ∧ h0.nx ≤ k ∧ k < h.nx)
structure Inv (b : BS) (Ls : Array Bool) (E : Env) (h : H) (d : D) (φ : Phi) (a : Act) (w : World) : Prop where
  sz : Ls.size = ops.size
  dn : Dn ops Ls
  li : ∀ i, Lis Ls i → i ∈ b.tb.map (·.1)
  hv : ∀ i ∈ b.hs, Lis Ls i
  tm : ∀ t, (∃ i x, i ∈ b.tb.map (·.1) ∧ ¬ Lis Ls i ∧ oAt P eqT rnd ops i = some x ∧ oDst x = some t) ∨ VRel φ (gt E t) (a.eval (.tmp t))
  ln : E.length = a.tmps.size
  pd : ∀ i A x, (i, A) ∈ b.tb → ¬ Lis Ls i → oAt P eqT rnd ops i = some x → Pend P eqT rnd ops h0 b Ls E h φ A x
  cov : ∀ k e, look h.es k = some e → k < h.nx ∧ (φ k = none → ∃ j, Al P eqT rnd ops b Ls E k j)
  uq : ∀ k j j', Al P eqT rnd ops b Ls E k j → Al P eqT rnd ops b Ls E k j' → j = j'
  rel : HRelU LB φ h w
  ext : Ext φ0 h0 w0 φ h w
  glob : GRel P φ
  dfs : DRel φ d a.defers
end
end
end Go.Ev

namespace Go.Ev
open Go
noncomputable section

theorem blk_at (vf : VF) (k : Nat) : blk (vf.at k) = some k := by cases vf <;> rfl

section
variable {P : Program} {eqT : TypeId → Option (List SK)} {rnd : Bool} {ops : Array Oper} {LB : LBody} {φ0 φ : Phi} {h0 h : H} {w0 w : World} {b b' : BS} {Ls : Array Bool} {E E' : Env} {d : D} {a : Act} {out : Value}

theorem oAt_of {i : Nat} {o : Oper} {x : O} (ho : ops[i]? = some o) (hx : dO P eqT rnd ops o = some x) : oAt P eqT rnd ops i = some x := by unfold oAt; rw [ho]; exact hx
theorem oAt_inv {i : Nat} {x : O} (h : oAt P eqT rnd ops i = some x) : ∃ o, ops[i]? = some o ∧ dO P eqT rnd ops o = some x := by
  unfold oAt at h
  cases ho : ops[i]? with
  | none => rw [ho] at h; cases h
  | some o => rw [ho] at h; exact ⟨o, rfl, h⟩
theorem oAt_dst {i : Nat} {x : O} (h : oAt P eqT rnd ops i = some x) : (ops[i]?).bind (·.dst) = oDst x := by
  obtain ⟨o, h1, h2⟩ := oAt_inv h
  rw [h1]; exact (dO_inv h2).2.1
/-- what an operation looks at is written by its ancestors -/
theorem El.uses {i j : Nat} {A : List Nat} {x : O} {t : Nat} (e : El P eqT rnd ops b i A) (hx : oAt P eqT rnd ops i = some x) (ht : t ∈ useAll x) (hjd : j ∈ b.tb.map (·.1)) (hj : (ops[j]?).bind (·.dst) = some t) : j ∈ A ∨ j ∈ b.hs := by
  obtain ⟨o, y, k1, k2, _, k4, _⟩ := e.ex
  have := oAt_of k1 k2
  rw [hx] at this; cases this
  exact k4 j t hjd hj ht
theorem Inv.al (hb : BSOK P eqT rnd ops b) (inv : Inv P eqT rnd ops LB φ0 h0 w0 b Ls E h d φ a w) {k j : Nat} (ha : Al P eqT rnd ops b Ls E k j) : k < h.nx ∧ h0.nx ≤ k ∧ φ k = none := by
  obtain ⟨x, t, l, h1, h2, h3, h4, h5, h6, h7⟩ := ha
  obtain ⟨A, hA⟩ := hb.at h1
  rcases inv.pd j A x hA h2 h3 with ⟨q, _⟩ | ⟨_, l', v, hs, q, _⟩ | ⟨_, l', vf, e, k', t', q1, q2, q3, q4, q5, q6, q7, q8, q9⟩
  · rw [h5] at q; cases q
  · rw [h4] at q; cases q
  · rw [h6] at q3; cases q3
    rw [q5, blk_at] at h7; cases h7
    exact ⟨q9, q8, q7⟩

theorem Inv.light (hb : BSOK P eqT rnd ops b) {i : Nat} {x : O} {A : List Nat} (hx : oAt P eqT rnd ops i = some x) (htb : b'.tb = (i, A) :: b.tb) (hni : i ∉ b.tb.map (·.1)) (hel : El P eqT rnd ops b' i A)
    (hdone : ∀ j ∈ A, j ∈ b.tb.map (·.1)) (hhs : b'.hs = b.hs) (nw1 : ∀ s ∈ useAll x, oDst x ≠ some s) (nw2 : ∀ k B y, (k, B) ∈ b.tb → oAt P eqT rnd ops k = some y → ∀ s ∈ useAll y, oDst x ≠ some s) (hdist : ∀ j t, j ≠ i → (ops[j]?).bind (·.dst) = some t → oDst x ≠ some t) (inv : Inv P eqT rnd ops LB φ0 h0 w0 b Ls E h d φ a w) {h' : H}
    (hc : (wantB E x = some false ∧ E' = setD x undef E ∧ h' = h ∧ ∀ l, oI x ≠ .c l) ∨
      (wantB E x = some true ∧ ∃ l v hs, oI x = .a l ∧ ev1 l E hs some = some v ∧ (∀ k e, look hs.es k = some e → look h.es k = some e ∧ ∀ t, t ∈ alHide A b.al → blk (gt E t) ≠ some k) ∧ E' = setD x v E ∧ h' = h) ∨
      (wantB E x = some true ∧ ∃ l vf e t, oI x = .b l ∧ mk2 l E = some (vf, e) ∧ oDst x = some t ∧ t < E.length ∧ E' = setD x (vf.at h.nx) E ∧ h' = put2 h e)) :
    Inv P eqT rnd ops LB φ0 h0 w0 b' Ls E' h' d φ a w := by
  have hE : ∃ u, E' = setD x u E := by
    rcases hc with ⟨_, h1, _⟩ | ⟨_, l, v, hs, _, _, _, h1, _⟩ | ⟨_, l, vf, e, t, _, _, _, _, h1, _⟩ <;> exact ⟨_, h1⟩
  obtain ⟨u, hE⟩ := hE
  have other : ∀ s, oDst x ≠ some s → gt E' s = gt E s := fun s hs => by rw [hE]; exact gt_setD_other hs
  have len : E'.length = E.length := by rw [hE, setD_len]
  have xd := oAt_dst hx
  have usej : ∀ j B y, (j, B) ∈ b.tb → oAt P eqT rnd ops j = some y → ∀ s ∈ useAll y, gt E' s = gt E s := fun j B y hj hy s hs => other s (nw2 j B y hj hy s hs)
  have usei : ∀ s ∈ useAll x, gt E' s = gt E s := fun s hs => other s (nw1 s hs)
  have ne : ∀ j, j ∈ b.tb.map (·.1) → j ≠ i := fun j hj e => hni (e ▸ hj)
  have dstj : ∀ j y s, j ∈ b.tb.map (·.1) → oAt P eqT rnd ops j = some y → oDst y = some s → gt E' s = gt E s := fun j y s hj hy hs => other s (hdist j s (ne j hj) ((oAt_dst hy).trans hs))
  have hnl : ¬ Lis Ls i := fun hl => hni (inv.li i hl)
  have mem' : ∀ j, j ∈ b'.tb.map (·.1) ↔ j = i ∨ j ∈ b.tb.map (·.1) := fun j => by rw [htb]; simp
  have nxle : h.nx ≤ h'.nx := by
    rcases hc with ⟨_, _, h1, _⟩ | ⟨_, l, v, hs, _, _, _, _, h1⟩ | ⟨_, l, vf, e, t, _, _, _, _, _, h1⟩ <;> rw [h1]
    · exact Nat.le_refl _
    · exact Nat.le_refl _
    · exact Nat.le_succ _
  have hlook : ∀ k e, k ≠ h.nx → (look h'.es k = some e ↔ look h.es k = some e) := fun k e hk => by
    rcases hc with ⟨_, _, h1, _⟩ | ⟨_, l, v, hs, _, _, _, _, h1⟩ | ⟨_, l, vf, e', t, _, _, _, _, _, h1⟩ <;> rw [h1]
    show look ((h.nx, e') :: h.es) k = some e ↔ _
    rw [look_cons, if_neg hk]
  have hold : ∀ k e, look h.es k = some e → look h'.es k = some e := fun k e hk => (hlook k e (Nat.ne_of_lt (inv.cov k e hk).1)).2 hk
  -- allocations that are not there yet
  have alx : ∀ k j, Al P eqT rnd ops b' Ls E' k j → (j ≠ i ∧ Al P eqT rnd ops b Ls E k j) ∨ (j = i ∧ k = h.nx) := by
    rintro k j ⟨y, t, l, q1, q2, q3, q4, q5, q6, q7⟩
    rcases (mem' j).1 q1 with rfl | hj
    · rw [hx] at q3; cases q3
      refine .inr ⟨rfl, ?_⟩
      rw [wantB_congr usei] at q5
      rcases hc with ⟨h1, _⟩ | ⟨_, l', v, hs, h1, _⟩ | ⟨_, l', vf, e, t', h1, h2, h3, h4, h5, h6⟩
      · rw [h1] at q5; cases q5
      · rw [h1] at q4; cases q4
      · rw [q6] at h3; cases h3
        rw [h5, gt_setD_same q6 h4, blk_at] at q7
        cases q7; rfl
    · obtain ⟨B, hB⟩ := hb.at hj
      refine .inl ⟨ne j hj, y, t, l, hj, q2, q3, q4, ?_, q6, ?_⟩
      · rw [← wantB_congr (usej j B y hB q3)]; exact q5
      · rw [← dstj j y t hj q3 q6]; exact q7
  have alback : ∀ k j, Al P eqT rnd ops b Ls E k j → Al P eqT rnd ops b' Ls E' k j := by
    rintro k j ⟨y, t, l, q1, q2, q3, q4, q5, q6, q7⟩
    obtain ⟨B, hB⟩ := hb.at q1
    exact ⟨y, t, l, (mem' j).2 (.inr q1), q2, q3, q4, by rw [wantB_congr (usej j B y hB q3)]; exact q5, q6, by rw [dstj j y t q1 q3 q6]; exact q7⟩
  have alt : ∀ k j, Al P eqT rnd ops b Ls E k j → j ∉ A → ∃ t ∈ alHide A b.al, blk (gt E t) = some k := by
    rintro k j ⟨y, t, l, q1, q2, q3, q4, q5, q6, q7⟩ hjA
    obtain ⟨B, hB⟩ := hb.at q1
    obtain ⟨o', y', k1, k2, _, _, k5, _⟩ := (hb.el j B hB).ex
    have := oAt_of k1 k2
    rw [q3] at this; cases this
    obtain ⟨t', k6, k7⟩ := k5 l q4
    rw [q6] at k6; cases k6
    exact ⟨t, alHide_mem k7 hjA, q7⟩
  refine ⟨inv.sz, inv.dn, fun j hj => (mem' j).2 (.inr (inv.li j hj)), fun j hj => inv.hv j (hhs ▸ hj), fun t => ?_, by rw [len]; exact inv.ln, fun j B y hj hl hy => ?_, fun k e hk => ?_, fun k j j' hj hj' => ?_, ?_, ?_, inv.glob, inv.dfs⟩
  · by_cases ht : oDst x = some t
    · exact .inl ⟨i, x, (mem' i).2 (.inl rfl), hnl, hx, ht⟩
    · rcases inv.tm t with ⟨j, y, k1, k2, k3, k4⟩ | k
      · exact .inl ⟨j, y, (mem' j).2 (.inr k1), k2, k3, k4⟩
      · exact .inr (by rw [other t ht]; exact k)
  · rw [htb] at hj
    rcases List.mem_cons.1 hj with hj | hj
    · cases hj
      rw [hx] at hy; cases hy
      have hw := wantB_congr (E := E') (F := E) usei
      have hwI : ∀ s ∈ useI (oI x), gt E' s = gt E s := fun s hs => usei s (use_I hs)
      rcases hc with ⟨h1, h2, _⟩ | ⟨h1, l, v, hs, h2, h3, h4, h5, h6⟩ | ⟨h1, l, vf, e, t', h2, h3, h4, h5, h6, h7⟩
      · exact .inl ⟨by rw [hw]; exact h1, fun t ht hlt => by rw [h2]; exact gt_setD_same ht (by omega)⟩
      · refine .inr (.inl ⟨by rw [hw]; exact h1, l, v, hs, h2, ?_, fun t ht hlt => by rw [h5]; exact gt_setD_same ht (by omega), fun k e hk => ⟨hold k e (h4 k e hk).1, fun j hj => ?_⟩⟩)
        · rw [h2] at hwI
          rw [ev1_congr (E := E') (F := E) hwI]; exact h3
        · rcases alx k j hj with ⟨_, hj⟩ | ⟨_, hk'⟩
          · by_cases hjA : j ∈ A
            · exact hjA
            · obtain ⟨t, ht, hbk⟩ := alt k j hj hjA
              exact ((h4 k e hk).2 t ht hbk).elim
          · subst hk'
            have := (inv.cov _ e (h4 _ e hk).1).1
            omega
      · refine .inr (.inr ⟨by rw [hw]; exact h1, l, vf, e, h.nx, t', h2, ?_, h4, by omega, by rw [h6]; exact gt_setD_same h4 h5, ?_, inv.rel.fresh _ (Nat.le_refl _), inv.ext.nx, ?_⟩)
        · rw [h2] at hwI
          rw [mk2_congr (E := E') (F := E) hwI]; exact h3
        · rw [h7]; show look ((h.nx, e) :: h.es) h.nx = _; rw [look_cons, if_pos rfl]
        · rw [h7]; exact Nat.lt_succ_self _
    · have hjd : j ∈ b.tb.map (·.1) := List.mem_map.2 ⟨_, hj, rfl⟩
      have hw := wantB_congr (E := E') (F := E) (usej j B y hj hy)
      have hwI : ∀ s ∈ useI (oI y), gt E' s = gt E s := fun s hs => usej j B y hj hy s (use_I hs)
      rcases inv.pd j B y hj hl hy with ⟨q1, q2⟩ | ⟨q1, l, v, hs, q2, q3, q4, q5⟩ | ⟨q1, l, vf, e, k, t, q2, q3, q4, q5, q6, q7, q8, q9, q10⟩
      · exact .inl ⟨by rw [hw]; exact q1, fun t ht hlt => by rw [dstj j y t hjd hy ht]; exact q2 t ht (by omega)⟩
      · refine .inr (.inl ⟨by rw [hw]; exact q1, l, v, hs, q2, ?_, fun t ht hlt => by rw [dstj j y t hjd hy ht]; exact q4 t ht (by omega), fun k e hk => ⟨hold k e (q5 k e hk).1, fun j' hj' => ?_⟩⟩)
        · rw [q2] at hwI
          rw [ev1_congr (E := E') (F := E) hwI]; exact q3
        · rcases alx k j' hj' with ⟨_, hj'⟩ | ⟨_, hk'⟩
          · exact (q5 k e hk).2 j' hj'
          · subst hk'
            have := (inv.cov _ e (q5 _ e hk).1).1
            omega
      · refine .inr (.inr ⟨by rw [hw]; exact q1, l, vf, e, k, t, q2, ?_, q4, by omega, by rw [dstj j y t hjd hy q4]; exact q6, hold k e q7, q8, q9, by omega⟩)
        rw [q2] at hwI
        rw [mk2_congr (E := E') (F := E) hwI]; exact q3
  · by_cases hkn : k = h.nx
    · subst hkn
      rcases hc with ⟨_, _, h1, _⟩ | ⟨_, l, v, hs, _, _, _, _, h1⟩ | ⟨h1, l, vf, e', t, h2, h3, h4, h5, h6, h7⟩
      · rw [h1] at hk; have := (inv.cov _ e hk).1; omega
      · rw [h1] at hk; have := (inv.cov _ e hk).1; omega
      · refine ⟨by rw [h7]; exact Nat.lt_succ_self _, fun _ => ⟨i, x, t, l, (mem' i).2 (.inl rfl), hnl, hx, h2, by rw [wantB_congr usei]; exact h1, h4, ?_⟩⟩
        rw [h6, gt_setD_same h4 h5]; exact blk_at vf _
    · obtain ⟨c1, c2⟩ := inv.cov k e ((hlook k e hkn).1 hk)
      exact ⟨by omega, fun hn => let ⟨j, hj⟩ := c2 hn; ⟨j, alback k j hj⟩⟩
  · rcases alx k j hj with ⟨_, q⟩ | ⟨q1, q2⟩ <;> rcases alx k j' hj' with ⟨_, q'⟩ | ⟨q1', q2'⟩
    · exact inv.uq k j j' q q'
    · have := (inv.al hb q).1; omega
    · have := (inv.al hb q').1; omega
    · rw [q1, q1']
  · have hm : ∀ k e p, look h'.es k = some e → φ k = some p → look h.es k = some e := fun k e p hk hp => by
      refine (hlook k e fun hkn => ?_).1 hk
      subst hkn
      rw [inv.rel.fresh _ (Nat.le_refl _)] at hp; cases hp
    exact ⟨fun k hk => inv.rel.fresh k (by omega), fun k e p hk hp => inv.rel.live k e p (hm k e p hk hp) hp, fun k j e e' p q hk hj hp hq => inv.rel.inj k j e e' p q (hm k e p hk hp) (hm j e' q hj hq) hp hq⟩
  · have hm : ∀ k e p, look h'.es k = some e → φ k = some p → look h.es k = some e := fun k e p hk hp => by
      refine (hlook k e fun hkn => ?_).1 hk
      subst hkn
      rw [inv.rel.fresh _ (Nat.le_refl _)] at hp; cases hp
    exact ⟨inv.ext.same, Nat.le_trans inv.ext.nx nxle, inv.ext.size, inv.ext.os, inv.ext.tape, inv.ext.output,
      fun c hc hno => ⟨(inv.ext.keep c hc hno).1, fun ⟨k, e, p, q1, q2, q3, q4⟩ => (inv.ext.keep c hc hno).2 ⟨k, e, p, hm k e p q1 q3, q2, q3, q4⟩⟩,
      fun c hc hno => fun ⟨k, e, p, q1, q3, q4⟩ => inv.ext.img c hc hno ⟨k, e, p, hm k e p q1 q3, q3, q4⟩⟩
end
end
end Go.Ev

namespace Go.Ev
open Go
noncomputable section

section
variable {P : Program} {eqT : TypeId → Option (List SK)} {rnd : Bool} {ops : Array Oper} {LB : LBody} {φ0 φ ψ : Phi} {h0 h : H} {w0 w u : World} {b b' : BS} {Ls : Array Bool} {E E' : Env} {d : D} {a : Act} {out : Value} {Q : Exit → Act → World → Prop} {ro : Option Nat}

/-- as much of the shadow's values as is there -/
theorem mask_ex (hl : E.length = a.tmps.size) : ∃ Em : Env, LRel φ Em a.tmps.toList ∧ ∀ t, VRel φ (gt E t) (a.eval (.tmp t)) → gt Em t = gt E t := by
  classical
  refine ⟨.of ((List.range E.length).map fun t => if VRel φ (gt E t) (a.eval (.tmp t)) then gt E t else .float .f32 0), ⟨by simp [hl, Env.of], fun i v v' hv hv' => ?_⟩, fun t ht => ?_⟩
  · change ((List.range E.length).map fun t => if VRel φ (gt E t) (a.eval (.tmp t)) then gt E t else .float .f32 0)[i]? = some v at hv
    have hi : i < a.tmps.size := by have := (List.getElem?_eq_some_iff.1 hv').1; simpa using this
    have he : a.eval (.tmp i) = v' := by
      show a.tmps.getD i Go.undef = v'
      have : a.tmps[i]? = some v' := by simpa using hv'
      simp [Array.getD_eq_getD_getElem?, this]
    rw [List.getElem?_map, List.getElem?_range (by omega)] at hv
    simp only [Option.map_some, Option.some.injEq] at hv
    subst hv
    split
    · rename_i h; rw [he] at h; exact h
    · exact .unk _
  · by_cases hi : t < E.length
    · rw [gt_eq]
      simp only [Env.of]
      rw [List.getD_eq_getElem?_getD, List.getElem?_map, List.getElem?_range hi]
      simp only [Option.map_some, Option.getD_some]
      exact if_pos ht
    · rw [gt_eq, gt_eq]
      simp only [Env.of]
      rw [List.getD_eq_getElem?_getD, List.getElem?_eq_none (by simp; omega), List.getD_eq_getElem?_getD, List.getElem?_eq_none (by unfold Env.length at hi; omega)]
theorem wanted_sound {Em : Env} (hm : LRel φ Em a.tmps.toList) {o : Oper} {x : O} (hx : dO P eqT rnd ops o = some x) (hu : ∀ s ∈ useAll x, gt Em s = gt E s) {bb : Bool} (hw : wantB E x = some bb) : Region.wanted o (yielded ops a.tmps) = bb := by
  obtain ⟨_, _, _, hg⟩ := dO_inv hx
  rcases hg with ⟨h1, h2⟩ | ⟨j, t, want, h1, h2, h3⟩
  · unfold wantB at hw
    rw [h1] at hw
    cases hw
    simp [Region.wanted, h2]
  · have ht : gt Em t = gt E t := hu t (by unfold useAll; rw [h1]; simp)
    have : isB (gt Em t) want (fun _ => some (.bool true)) (fun _ => some (.bool false)) = some (.bool bb) := by
      unfold wantB at hw
      rw [h1] at hw
      rw [ht]
      have hw : (match gt E t with | .bool b => some (b == want) | .tuple _ => some false | _ => none) = some bb := hw
      unfold isB
      generalize gt E t = gv at hw ⊢
      split at hw
      · rename_i c
        cases c <;> cases want <;> cases hw <;> rfl
      · cases hw; rfl
      · cases hw
    rcases isB_sound hm h2 h3 this with ⟨k1, k2⟩ | ⟨k1, k2⟩
    · cases k2; exact k1
    · cases k2; exact k1

/-! ### Listed operations -/
theorem lis_set {i k : Nat} (hi : i < Ls.size) : Lis (Ls.setIfInBounds i true) k ↔ k = i ∨ Lis Ls k := by
  unfold Lis
  simp only [Array.getD_eq_getD_getElem?, Array.getElem?_setIfInBounds]
  by_cases h : i = k
  · subst h; simp [hi]
  · have : k ≠ i := fun e => h e.symm
    simp [h, this]
theorem dn_set {i : Nat} (hi : i < Ls.size) (hd : Dn ops Ls) (hr : ∀ o, ops[i]? = some o → ∀ e ∈ edgesOf o, Lis Ls e) : Dn ops (Ls.setIfInBounds i true) := fun j o hj ho e he => by
  rcases (lis_set hi).1 hj with rfl | hj
  · exact (lis_set hi).2 (.inr (hr o ho e he))
  · exact (lis_set hi).2 (.inr (hd j o hj ho e he))
theorem ready_mem {i : Nat} (hs : Ls.size = ops.size) : i ∈ Region.ready .any ops Ls ↔ i < ops.size ∧ ¬ Lis Ls i ∧ ∃ o, ops[i]? = some o ∧ ∀ e ∈ edgesOf o, Lis Ls e := by
  unfold Region.ready
  simp only [List.mem_filter, List.mem_range, Bool.and_eq_true, Bool.not_eq_true']
  constructor
  · rintro ⟨h1, h2, h3⟩
    refine ⟨h1, ?_, ?_⟩
    · unfold Lis
      have hl : i < Ls.size := by omega
      simp only [Array.getD_eq_getD_getElem?, Array.getElem?_eq_getElem hl, Option.getD_some] at h2 ⊢
      rw [h2]; simp
    · cases ho : ops[i]? with
      | none => rw [ho] at h3; cases h3
      | some o =>
        rw [ho] at h3
        simp only [Option.map_some, Option.getD_some] at h3
        refine ⟨o, rfl, fun e he => ?_⟩
        unfold edgesOf at he
        obtain ⟨ed, h4, rfl⟩ := List.mem_map.1 he
        obtain ⟨h5, h6⟩ := List.mem_filter.1 h4
        have := (Array.all_eq_true_iff_forall_mem.1 h3) ed (by simpa using h5)
        simp only [h6, Bool.not_true, Bool.false_or] at this
        exact this
  · rintro ⟨h1, h2, o, ho, h3⟩
    refine ⟨h1, ?_, ?_⟩
    · unfold Lis at h2
      have hl : i < Ls.size := by omega
      simp only [Array.getD_eq_getD_getElem?, Array.getElem?_eq_getElem hl, Option.getD_some] at h2 ⊢
      simpa using h2
    · rw [ho]
      simp only [Option.map_some, Option.getD_some]
      refine Array.all_eq_true_iff_forall_mem.2 fun ed hed => ?_
      by_cases hb : Region.binds .any ed = true
      · have := h3 ed.on (List.mem_map.2 ⟨ed, List.mem_filter.2 ⟨by simpa using hed, hb⟩, rfl⟩)
        simp only [hb, Bool.not_true, Bool.false_or]
        exact this
      · simp [hb]

/-! ### A light operation comes to be run -/
theorem eval_put {dst : Option Nat} {v : Value} (t : Nat) : (a.put dst v).eval (.tmp t) = if dst = some t ∧ t < a.tmps.size then v else a.eval (.tmp t) := by
  cases dst with
  | none => simp [Act.put]
  | some s =>
    show (a.tmps.setIfInBounds s v).getD t Go.undef = _
    simp only [Array.getD_eq_getD_getElem?, Array.getElem?_setIfInBounds]
    by_cases h : s = t
    · subst h
      by_cases hl : s < a.tmps.size
      · simp [hl]
      · have : a.eval (.tmp s) = Go.undef := by
          show a.tmps.getD s Go.undef = _
          simp [Array.getD_eq_getD_getElem?, Array.getElem?_eq_none (Nat.le_of_not_lt hl)]
        simp [hl, this]
    · have e1 : ¬ (some s = some t ∧ t < a.tmps.size) := fun hh => h (by cases hh.1; rfl)
      rw [if_neg h, if_neg e1]
      show _ = a.tmps.getD t Go.undef
      simp [Array.getD_eq_getD_getElem?]
theorem Inv.listed (hb : BSOK P eqT rnd ops b) (inv : Inv P eqT rnd ops LB φ0 h0 w0 b Ls E h d φ a w) {i : Nat} {x : O} (hx : oAt P eqT rnd ops i = some x) (hib : i ∈ b.tb.map (·.1)) (hil : i < Ls.size)
    (hr : ∀ o, ops[i]? = some o → ∀ e ∈ edgesOf o, Lis Ls e) {v' : Value} (hle : φ.le ψ) (hv : ∀ t, oDst x = some t → t < E.length → VRel ψ (gt E t) v')
    (h3 : ∀ k j, j ≠ i → Al P eqT rnd ops b Ls E k j → ψ k = none) (h4 : ∀ k, Al P eqT rnd ops b Ls E k i → ψ k ≠ none) (rel : HRelU LB ψ h u) (ext : Ext φ0 h0 w0 ψ h u) :
    Inv P eqT rnd ops LB φ0 h0 w0 b (Ls.setIfInBounds i true) E h d ψ (a.put (oDst x) v') u := by
  have ls := fun k => lis_set (Ls := Ls) (i := i) (k := k) hil
  have al : ∀ k j, Al P eqT rnd ops b (Ls.setIfInBounds i true) E k j → j ≠ i ∧ Al P eqT rnd ops b Ls E k j := by
    rintro k j ⟨y, t, l, q1, q2, q3, q4, q5, q6, q7⟩
    exact ⟨fun e => q2 ((ls j).2 (.inl e)), y, t, l, q1, fun e => q2 ((ls j).2 (.inr e)), q3, q4, q5, q6, q7⟩
  refine ⟨by simp [inv.sz], dn_set hil inv.dn hr, fun j hj => ?_, fun j hj => (ls j).2 (.inr (inv.hv j hj)), fun t => ?_, by cases hd : oDst x <;> simp [Act.put, inv.ln],
    fun j B y hj hl hy => ?_, fun k e hk => ?_, fun k j j' hj hj' => inv.uq k j j' (al k j hj).2 (al k j' hj').2, rel, ext, inv.glob.mono hle, ?_⟩
  · rcases (ls j).1 hj with rfl | hj
    · exact hib
    · exact inv.li j hj
  · rw [eval_put]
    by_cases ht : oDst x = some t
    · right
      by_cases hlt : t < a.tmps.size
      · rw [if_pos ⟨ht, hlt⟩]; exact hv t ht (by have := inv.ln; omega)
      · rw [if_neg fun hh => hlt hh.2]
        have e1 : gt E t = undef := by
          rw [gt_eq, List.getD_eq_getElem?_getD, List.getElem?_eq_none (by have := inv.ln; unfold Env.length at this; omega)]; rfl
        have e2 : a.eval (.tmp t) = Go.undef := by
          show a.tmps.getD t Go.undef = _
          simp [Array.getD_eq_getD_getElem?, Array.getElem?_eq_none (Nat.le_of_not_lt hlt)]
        rw [e1, e2]; exact VRel.undef ψ
    · rw [if_neg fun hh => ht hh.1]
      rcases inv.tm t with ⟨j, y, k1, k2, k3, k4⟩ | k
      · refine .inl ⟨j, y, k1, fun hl => ?_, k3, k4⟩
        rcases (ls j).1 hl with rfl | hl
        · rw [hx] at k3; cases k3; exact ht k4
        · exact k2 hl
      · exact .inr (k.mono hle)
  · have hji : j ≠ i := fun e => hl ((ls j).2 (.inl e))
    have hlj : ¬ Lis Ls j := fun e => hl ((ls j).2 (.inr e))
    rcases inv.pd j B y hj hlj hy with ⟨q1, q2⟩ | ⟨q1, l, v, hs, q2, q3, q4, q5⟩ | ⟨q1, l, vf, e, k, t, q2, q3, q4, q5, q6, q7, q8, q9, q10⟩
    · exact .inl ⟨q1, q2⟩
    · exact .inr (.inl ⟨q1, l, v, hs, q2, q3, q4, fun k e hk => ⟨(q5 k e hk).1, fun j' hj' => (q5 k e hk).2 j' (al k j' hj').2⟩⟩)
    · exact .inr (.inr ⟨q1, l, vf, e, k, t, q2, q3, q4, q5, q6, q7, h3 k j hji ⟨y, t, l, List.mem_map.2 ⟨_, hj, rfl⟩, hlj, hy, q2, q1, q4, by rw [q6]; exact blk_at vf k⟩, q9, q10⟩)
  · obtain ⟨c1, c2⟩ := inv.cov k e hk
    refine ⟨c1, fun hn => ?_⟩
    have hφ : φ k = none := match hq : φ k with
      | none => rfl
      | some p => by rw [hle k p hq] at hn; cases hn
    obtain ⟨j, hj⟩ := c2 hφ
    have hji : j ≠ i := fun e => by subst e; exact h4 k hj hn
    obtain ⟨y, t, l, q1, q2, q3, q4, q5, q6, q7⟩ := hj
    refine ⟨j, y, t, l, q1, fun hl => ?_, q3, q4, q5, q6, q7⟩
    rcases (ls j).1 hl with e | hl
    · exact hji e
    · exact q2 hl
  · cases hd : oDst x <;> exact inv.dfs.mono hle

/-- what an operation that may be run looks at is there -/
theorem Inv.sees (inv : Inv P eqT rnd ops LB φ0 h0 w0 b Ls E h d φ a w) {i : Nat} {A : List Nat} {x : O} (hel : El P eqT rnd ops b' i A) (htb : ∀ j, j ∈ b.tb.map (·.1) → j ∈ b'.tb.map (·.1)) (hhs : ∀ j, j ∈ b'.hs → j = i ∨ j ∈ b.hs) (hib : i ∈ b.tb.map (·.1) → i ∉ b'.hs) (hx : oAt P eqT rnd ops i = some x) (hil : i < Ls.size)
    (hr : ∀ o, ops[i]? = some o → ∀ e ∈ edgesOf o, Lis Ls e) : (∀ k ∈ A, Lis Ls k) ∧ ∀ s ∈ useAll x, VRel φ (gt E s) (a.eval (.tmp s)) := by
  have hA : ∀ k ∈ A, Lis Ls k := fun k hk => by
    have := hel.dn _ (dn_set hil inv.dn hr) ((lis_set hil).2 (.inl rfl)) k hk
    rcases (lis_set hil).1 this with rfl | h
    · exact (hel.ni hk).elim
    · exact h
  refine ⟨hA, fun s hs => ?_⟩
  rcases inv.tm s with ⟨j, y, k1, k2, k3, k4⟩ | k
  · rcases hel.uses hx hs (htb j k1) ((oAt_dst k3).trans k4) with q | q
    · exact (k2 (hA j q)).elim
    · rcases hhs j q with rfl | q'
      · exact (hib k1 q).elim
      · exact (k2 (inv.hv j q')).elim
  · exact k

theorem Inv.real (hq : ∀ t s, eqT t = some s → EqSpec P t s) (hb : BSOK P eqT rnd ops b) (hrnd : rnd = ro.isSome) (inv : Inv P eqT rnd ops LB φ0 h0 w0 b Ls E h d φ a w) {i : Nat} {A : List Nat} {o : Oper} {x : O} (hiA : (i, A) ∈ b.tb) (ho : ops[i]? = some o)
    (hdo : dO P eqT rnd ops o = some x) (hnl : ¬ Lis Ls i) (hr : ∀ e ∈ edgesOf o, Lis Ls e) (hc : ∀ l, oI x ≠ .c l) {K : Act → World → Prop}
    (hK : ∀ ψ a u, Inv P eqT rnd ops LB φ0 h0 w0 b (Ls.setIfInBounds i true) E h d ψ a u → K a u) : wpOpIn (fen ro) 0 P ops Q i K a w := by
  have hx := oAt_of ho hdo
  have hib : i ∈ b.tb.map (·.1) := List.mem_map.2 ⟨_, hiA, rfl⟩
  have hel := hb.el i A hiA
  have hil : i < Ls.size := by rw [inv.sz]; exact hel.lt
  have hr' : ∀ o, ops[i]? = some o → ∀ e ∈ edgesOf o, Lis Ls e := fun o' ho' => by rw [ho] at ho'; cases ho'; exact hr
  obtain ⟨hA, hsee⟩ := inv.sees hel (fun _ h => h) (fun _ h => .inr h) (fun _ hh => hnl (inv.hv i hh)) hx hil hr'
  obtain ⟨Em, hm1, hm2⟩ := mask_ex (φ := φ) inv.ln
  have hu : ∀ s ∈ useAll x, gt Em s = gt E s := fun s hs => hm2 s (hsee s hs)
  obtain ⟨hop, hdst, hnd, _⟩ := dO_inv hdo
  have hs : o.semAt ro a.eval = execOp a.eval o := semAt_of (P := P) o rnd hrnd hop hnd
  unfold wpOpIn
  rw [ho]
  simp only
  have noal : ∀ l, oI x = .a l → ∀ k, ¬ Al P eqT rnd ops b Ls E k i := fun l hl k ⟨y, t, l', q1, q2, q3, q4, _⟩ => by rw [hx] at q3; cases q3; rw [hl] at q4; cases q4
  rcases inv.pd i A x hiA hnl hx with ⟨q1, q2⟩ | ⟨q1, l, v, hs', q2, q3, q4, q5⟩ | ⟨q1, l, vf, e, k, t, q2, q3, q4, q5, q6, q7, q8, q9, q10⟩
  · rw [if_neg (by rw [wanted_sound hm1 hdo hu q1]; simp), hdst]
    refine ⟨fun _ _ => trivial, hK _ _ _ (inv.listed hb hx hib hil hr' (fun _ _ h => h) (fun t ht hlt => by rw [q2 t ht hlt]; exact VRel.undef φ) (fun k j _ ha => (inv.al hb ha).2.2) (fun k ha => ?_) inv.rel inv.ext)⟩
    obtain ⟨y, t, l', _, _, r3, _, r5, _⟩ := ha
    rw [hx] at r3; cases r3
    rw [q1] at r5; cases r5
  · rw [if_pos (wanted_sound hm1 hdo hu q1)]
    have hH : HRel LB φ { es := hs'.es, nx := h.nx, low := h.low } w := (inv.rel.part (Nat.le_refl _) fun k e hk => (q5 k e hk).1).full fun k e hk hn => by
      obtain ⟨j, hj⟩ := (inv.cov k e (q5 k e hk).1).2 hn
      obtain ⟨y, t, l', _, r2, _⟩ := hj
      exact r2 (hA j ((q5 k e hk).2 j ⟨y, t, l', by assumption, r2, by assumption⟩))
    have hd1 : d1 P eqT o.op = some l := by
      have := hop
      rw [q2] at this
      unfold dOp at this
      split at this
      · rename_i j hj; cases this; exact hj
      · split at this
        · cases this
        · obtain ⟨_, _, hh⟩ := map_inv this; cases hh
    have hev : ev1 l Em { es := hs'.es, nx := h.nx, low := h.low } some = some v := by
      rw [ev1_congr (E := Em) (F := E) fun s hs => hu s (use_I (by rw [q2]; exact hs))]
      exact ev1_more (h := hs') (fun k e hk => hk) q3
    obtain ⟨v1, v', r1, r2, r3⟩ := d1_sound (dst := o.dst) (ty := o.type) (pos := o.pos) (af := o.after) (gd := o.guard) hH inv.glob hm1 hq hd1 hev
    cases r1
    refine wp_of_value hs r3 ?_
    rw [hdst]
    exact hK _ _ _ (inv.listed hb hx hib hil hr' (fun _ _ h => h) (fun t ht hlt => by rw [q4 t ht hlt]; exact r2) (fun k j _ ha => (inv.al hb ha).2.2) (fun k ha => (noal l q2 k ha).elim) inv.rel inv.ext)
  · rw [if_pos (wanted_sound hm1 hdo hu q1)]
    have hd2 : d2 P o.op = some l := by
      have := hop
      rw [q2] at this
      unfold dOp at this
      split at this
      · cases this
      · split at this
        · rename_i j hj; cases this; exact hj
        · obtain ⟨_, _, hh⟩ := map_inv this; cases hh
    have hmk : mk2 l Em = some (vf, e) := by
      rw [mk2_congr (E := Em) (F := E) fun s hs => hu s (use_I (by rw [q2]; exact hs))]
      exact q3
    obtain ⟨v', u, p, r1, r2, r3, r4, r5, r6, r7, r8⟩ := l2_late (LB := LB) (w := w) (dst := o.dst) (ty := o.type) (pos := o.pos) (af := o.after) (gd := o.guard) inv.glob hm1 hd2 hmk (N := h.nx) inv.rel.fresh
    obtain ⟨s1, s2⟩ := r2 k (φ.put k p) (Phi.le_put q8) (Phi.put_same φ k p)
    obtain ⟨t1, t2⟩ := late_u inv.rel inv.ext q9 q8 q10 q7 r3 r4 r5 r6 r7 r8 s2
    refine wp_of_value hs r1 ?_
    rw [hdst]
    have me : Al P eqT rnd ops b Ls E k i := ⟨x, t, l, hib, hnl, hx, q2, q1, q4, by rw [q6]; exact blk_at vf k⟩
    refine hK _ _ _ (inv.listed hb hx hib hil hr' (Phi.le_put q8) (fun t' ht hlt => ?_) (fun k' j hji ha => ?_) (fun k' ha => ?_) t1 t2)
    · rw [q4] at ht; cases ht; rw [q6]; exact s1
    · have : k' ≠ k := fun e => hji (by subst e; exact inv.uq k' j i ha me)
      rw [Phi.put_other φ p this]; exact (inv.al hb ha).2.2
    · obtain ⟨y, t', l', _, _, r3', _, _, r6', r7'⟩ := ha
      rw [hx] at r3'; cases r3'
      rw [q4] at r6'; cases r6'
      rw [q6, blk_at] at r7'; cases r7'
      rw [Phi.put_same]; simp
end
end
end Go.Ev

namespace Go.Ev
open Go
noncomputable section

section
variable {P : Program} {eqT : TypeId → Option (List SK)} {rnd : Bool} {ops : Array Oper} {LB : LBody} {φ0 φ ψ : Phi} {h0 h : H} {w0 w u : World} {b b' : BS} {Ls : Array Bool} {E E' : Env} {d : D} {a : Act} {out : Value} {Q : Exit → Act → World → Prop} {ro : Option Nat}

theorem recheck_sound {k : Unit → R} : ∀ (re : List (O × List Nat)), recheck E h k re = some out → k () = some out ∧ ∀ y hide, (y, hide) ∈ re → wantB E y = some true → ∃ l v, oI y = .a l ∧ ev1 l E (hideH (hideB E hide) h) some = some v ∧ ∀ t, oDst y = some t → gt E t = v := by
  intro re
  induction re with
  | nil => intro hx; exact ⟨hx, fun y hide hm => by simp at hm⟩
  | cons p r ih =>
    intro hx
    simp only [recheck, guardB_want] at hx
    split at hx
    · rename_i hw
      split at hx
      · rename_i l hl
        split at hx
        · rename_i v hv
          split at hx
          · rename_i hs
            obtain ⟨h1, h2⟩ := ih hx
            refine ⟨h1, fun y hide hm hwy => ?_⟩
            rcases List.mem_cons.1 hm with hm | hm
            · subst hm
              refine ⟨l, v, hl, hv, fun t ht => ?_⟩
              unfold same at hs
              rw [show oDst y = some t from ht] at hs
              exact (veq_eq _ _ _ hs).symm
            · exact h2 y hide hm hwy
          · cases hx
        · cases hx
      · cases hx
    · rename_i hw
      obtain ⟨h1, h2⟩ := ih hx
      refine ⟨h1, fun y hide hm hwy => ?_⟩
      rcases List.mem_cons.1 hm with hm | hm
      · subst hm; rw [show wantB E y = some false from hw] at hwy; cases hwy
      · exact h2 y hide hm hwy
    · cases hx

theorem maskD_rel : ∀ (ds : List Nat) (E : Env), E.length = a.tmps.size → (∀ t, t ∈ ds ∨ VRel φ (gt E t) (a.eval (.tmp t))) → LRel φ (maskD ds E) a.tmps.toList := by
  intro ds
  induction ds with
  | nil =>
    intro E hl hr
    refine ⟨by simp only [maskD]; unfold Env.length at hl; simp [hl], fun i v v' hv hv' => ?_⟩
    have := (hr i).resolve_left (by simp)
    have e1 : gt E i = v := by rw [gt_eq, List.getD_eq_getElem?_getD, show E.l[i]? = some v from hv]; rfl
    have e2 : a.eval (.tmp i) = v' := by
      show a.tmps.getD i Go.undef = v'
      have : a.tmps[i]? = some v' := by simpa using hv'
      simp [Array.getD_eq_getD_getElem?, this]
    rw [e1, e2] at this
    exact this
  | cons s r ih =>
    intro E hl hr
    refine ih _ (by rw [Env.length_set, hl]) fun t => ?_
    rw [gt_set]
    by_cases ht : t = s ∧ s < E.length
    · rw [if_pos ht]; exact .inr (.unk _)
    · rw [if_neg ht]
      rcases hr t with h | h
      · rcases List.mem_cons.1 h with rfl | h
        · right
          have hlt : ¬ t < E.length := fun hh => ht ⟨rfl, hh⟩
          have e1 : gt E t = undef := by rw [gt_eq, List.getD_eq_getElem?_getD, List.getElem?_eq_none (by unfold Env.length at hlt; omega)]; rfl
          have e2 : a.eval (.tmp t) = Go.undef := by
            show a.tmps.getD t Go.undef = _
            simp [Array.getD_eq_getD_getElem?, Array.getElem?_eq_none (show a.tmps.size ≤ t by omega)]
          rw [e1, e2]; exact VRel.undef φ
        · exact .inl h
      · exact .inr h

/-- a heavy operation has been run -/
theorem Inv.after (hb : BSOK P eqT rnd ops b) (hb' : BSOK P eqT rnd ops b') {i : Nat} {A : List Nat} {o : Oper} {x : O} (ho : ops[i]? = some o) (hdo : dO P eqT rnd ops o = some x) (htb : b'.tb = (i, A) :: b.tb) (hni : i ∉ b.tb.map (·.1)) (hel : El P eqT rnd ops b' i A)
    (hdist : ∀ j t, j ≠ i → (ops[j]?).bind (·.dst) = some t → oDst x ≠ some t) (inv : Inv P eqT rnd ops LB φ0 h0 w0 b Ls E h d φ a w) (hr : ∀ e ∈ edgesOf o, Lis Ls e) (hhs : b'.hs = i :: b.hs) (war : ∀ k B y, (k, B) ∈ b.tb → oAt P eqT rnd ops k = some y → ∀ s ∈ useAll y, oDst x = some s → k ∈ A)
    {v v' : Value} {h' : H} {d' : D} {dfs : List Deferred} {a' : Act} (ha' : a' = { a with defers := dfs }.put (oDst x) v') (hv : VRel ψ v v') (hE' : E' = setD x v E) (hle : φ.le ψ) (hdf : DRel ψ d' dfs)
    (hnx : h.nx ≤ h'.nx) (hψ : ∀ k, k < h.nx → ψ k = φ k)
    (pend1 : ∀ j B y l, (j, B) ∈ b.tb → j ∉ A → ¬ Lis Ls j → oAt P eqT rnd ops j = some y → oI y = .a l → reads l = true → wantB E' y = some true → ∃ l v hs, oI y = .a l ∧ ev1 l E' hs some = some v ∧ (∀ t, oDst y = some t → t < E'.length → gt E' t = v) ∧
      ∀ k e, look hs.es k = some e → look h'.es k = some e ∧ ∀ j', Al P eqT rnd ops b Ls E k j' → j' ∈ B)
    (stay : ∀ k e, look h.es k = some e → (∃ j, j ∉ A ∧ Al P eqT rnd ops b Ls E k j) → look h'.es k = some e)
    (cov' : ∀ k e, look h'.es k = some e → k < h'.nx ∧ (ψ k = none → look h.es k = some e ∧ k < h.nx))
    (rel : HRelU LB ψ h' u) (ext : Ext φ0 h0 w0 ψ h' u) : Inv P eqT rnd ops LB φ0 h0 w0 b' (Ls.setIfInBounds i true) E' h' d' ψ a' u := by
  have hx := oAt_of ho hdo
  have hil : i < Ls.size := by rw [inv.sz]; exact hel.lt
  have hr' : ∀ o, ops[i]? = some o → ∀ e ∈ edgesOf o, Lis Ls e := fun o' ho' => by rw [ho] at ho'; cases ho'; exact hr
  obtain ⟨hA, hsee⟩ := inv.sees hel (fun j hj => by rw [htb]; exact List.mem_cons_of_mem _ hj) (fun j hj => by rw [hhs] at hj; exact List.mem_cons.1 hj) (fun hh => absurd hh hni) hx hil hr'
  have ls := fun k => lis_set (Ls := Ls) (i := i) (k := k) hil
  have other : ∀ s, oDst x ≠ some s → gt E' s = gt E s := fun s hs => by rw [hE']; exact gt_setD_other hs
  have len : E'.length = E.length := by rw [hE', setD_len]
  have xd := oAt_dst hx
  have ne : ∀ j, j ∈ b.tb.map (·.1) → j ≠ i := fun j hj e => hni (e ▸ hj)
  have usej : ∀ j B y, (j, B) ∈ b.tb → ¬ Lis Ls j → oAt P eqT rnd ops j = some y → ∀ s ∈ useAll y, gt E' s = gt E s := fun j B y hj hl hy s hs => other s fun e => hl (hA j (war j B y hj hy s hs e))
  have dstj : ∀ j y s, j ∈ b.tb.map (·.1) → oAt P eqT rnd ops j = some y → oDst y = some s → gt E' s = gt E s := fun j y s hj hy hs => other s (hdist j s (ne j hj) ((oAt_dst hy).trans hs))
  have mem' : ∀ j, j ∈ b'.tb.map (·.1) ↔ j = i ∨ j ∈ b.tb.map (·.1) := fun j => by rw [htb]; simp
  have alx : ∀ k j, Al P eqT rnd ops b' (Ls.setIfInBounds i true) E' k j → j ≠ i ∧ Al P eqT rnd ops b Ls E k j := by
    rintro k j ⟨y, t, l, q1, q2, q3, q4, q5, q6, q7⟩
    have hji : j ≠ i := fun e => q2 ((ls j).2 (.inl e))
    have hj := ((mem' j).1 q1).resolve_left hji
    obtain ⟨B, hB⟩ := hb.at hj
    have hlj : ¬ Lis Ls j := fun e => q2 ((ls j).2 (.inr e))
    exact ⟨hji, y, t, l, hj, hlj, q3, q4, by rw [← wantB_congr (usej j B y hB hlj q3)]; exact q5, q6, by rw [← dstj j y t hj q3 q6]; exact q7⟩
  have alback : ∀ k j, Al P eqT rnd ops b Ls E k j → Al P eqT rnd ops b' (Ls.setIfInBounds i true) E' k j := by
    rintro k j ⟨y, t, l, q1, q2, q3, q4, q5, q6, q7⟩
    obtain ⟨B, hB⟩ := hb.at q1
    refine ⟨y, t, l, (mem' j).2 (.inr q1), fun hl => ?_, q3, q4, by rw [wantB_congr (usej j B y hB q2 q3)]; exact q5, q6, by rw [dstj j y t q1 q3 q6]; exact q7⟩
    rcases (ls j).1 hl with e | hl
    · exact ne j q1 e
    · exact q2 hl
  refine ⟨by simp [inv.sz], dn_set hil inv.dn hr', fun j hj => (mem' j).2 (((ls j).1 hj).imp id (inv.li j)), fun j hj => (ls j).2 ((List.mem_cons.1 (hhs ▸ hj)).imp id (inv.hv j)), fun t => ?_,
    by rw [len, ha']; cases hd : oDst x <;> simp [Act.put, inv.ln], fun j B y hj hl hy => ?_, fun k e hk => ?_, fun k j j' hj hj' => inv.uq k j j' (alx k j hj).2 (alx k j' hj').2, rel, ext, inv.glob.mono hle, ?_⟩
  · have he : ∀ t, ({ a with defers := dfs } : Act).eval (.tmp t) = a.eval (.tmp t) := fun t => rfl
    rw [ha', eval_put, he]
    have hsz : ({ a with defers := dfs } : Act).tmps.size = a.tmps.size := rfl
    rw [hsz]
    by_cases ht : oDst x = some t
    · right
      by_cases hlt : t < a.tmps.size
      · rw [if_pos ⟨ht, hlt⟩, hE', gt_setD_same ht (by have := inv.ln; omega)]; exact hv
      · rw [if_neg fun hh => hlt hh.2]
        have e1 : gt E' t = undef := by
          rw [gt_eq, List.getD_eq_getElem?_getD, List.getElem?_eq_none (by have := inv.ln; unfold Env.length at *; omega)]; rfl
        have e2 : a.eval (.tmp t) = Go.undef := by
          show a.tmps.getD t Go.undef = _
          simp [Array.getD_eq_getD_getElem?, Array.getElem?_eq_none (Nat.le_of_not_lt hlt)]
        rw [e1, e2]; exact VRel.undef ψ
    · rw [if_neg fun hh => ht hh.1, other t ht]
      rcases inv.tm t with ⟨j, y, k1, k2, k3, k4⟩ | k
      · refine .inl ⟨j, y, (mem' j).2 (.inr k1), fun hl => ?_, k3, k4⟩
        rcases (ls j).1 hl with e | hl
        · exact ne j k1 e
        · exact k2 hl
      · exact .inr (k.mono hle)
  · have hji : j ≠ i := fun e => hl ((ls j).2 (.inl e))
    have hlj : ¬ Lis Ls j := fun e => hl ((ls j).2 (.inr e))
    have hj : (j, B) ∈ b.tb := by
      rw [htb] at hj
      rcases List.mem_cons.1 hj with hj | hj
      · cases hj; exact absurd rfl hji
      · exact hj
    have hjd : j ∈ b.tb.map (·.1) := List.mem_map.2 ⟨_, hj, rfl⟩
    have hjA : j ∉ A := fun hh => hlj (hA j hh)
    have hw := wantB_congr (E := E') (F := E) (usej j B y hj hlj hy)
    have hwI : ∀ s ∈ useI (oI y), gt E' s = gt E s := fun s hs => usej j B y hj hlj hy s (use_I hs)
    rcases inv.pd j B y hj hlj hy with ⟨q1, q2⟩ | ⟨q1, l, v, hs, q2, q3, q4, q5⟩ | ⟨q1, l, vf, e, k, t, q2, q3, q4, q5, q6, q7, q8, q9, q10⟩
    · exact .inl ⟨by rw [hw]; exact q1, fun t ht hlt => by rw [dstj j y t hjd hy ht]; exact q2 t ht (by omega)⟩
    · cases hrd : reads l with
      | true =>
        obtain ⟨l2, v2, hs2, r1, r2, r3, r4⟩ := pend1 j B y l hj hjA hlj hy q2 hrd (by rw [hw]; exact q1)
        exact .inr (.inl ⟨by rw [hw]; exact q1, l2, v2, hs2, r1, r2, r3, fun k e hk => ⟨(r4 k e hk).1, fun j' hj' => (r4 k e hk).2 j' (alx k j' hj').2⟩⟩)
      | false =>
        refine .inr (.inl ⟨by rw [hw]; exact q1, l, v, { es := [], nx := 0, low := 0 }, q2, ?_, fun t ht hlt => by rw [dstj j y t hjd hy ht]; exact q4 t ht (by omega), fun k e hk => by cases hk⟩)
        rw [q2] at hwI
        rw [ev1_congr (E := E') (F := E) hwI, ev1_blind hrd E _ hs]; exact q3
    · refine .inr (.inr ⟨by rw [hw]; exact q1, l, vf, e, k, t, q2, ?_, q4, by omega, by rw [dstj j y t hjd hy q4]; exact q6, ?_, by rw [hψ k q10]; exact q8, q9, by omega⟩)
      · rw [q2] at hwI
        rw [mk2_congr (E := E') (F := E) hwI]; exact q3
      · exact stay k e q7 ⟨j, hjA, y, t, l, hjd, hlj, hy, q2, q1, q4, by rw [q6]; exact blk_at vf k⟩
  · obtain ⟨c1, c2⟩ := cov' k e hk
    refine ⟨c1, fun hn => ?_⟩
    obtain ⟨c3, c4⟩ := c2 hn
    obtain ⟨j, hj⟩ := (inv.cov k e c3).2 (by rw [← hψ k c4]; exact hn)
    exact ⟨j, alback k j hj⟩
  · rw [ha']
    cases hd : oDst x <;> exact hdf

theorem Inv.heavy (hq : ∀ t s, eqT t = some s → EqSpec P t s) {call : Call} (hC : CallOK P LB call) (hrnd : rnd = ro.isSome) {dsts : List (Nat × Nat)} {kn : KN} {kx : KX} (hdsts : ∀ j t, (ops[j]?).bind (·.dst) = some t → (j, t) ∈ dsts) {i : Nat} {r : List Nat} {st : List DSt}
    (hdist : ∀ (i j t : Nat), j ≠ i → (ops[j]?).bind (·.dst) = some t → (ops[i]?).bind (·.dst) ≠ some t)
    (hb : BSOK P eqT rnd ops b) (hpl : plan P eqT rnd ops dsts (i :: r) b = some st) (inv : Inv P eqT rnd ops LB φ0 h0 w0 b Ls E h d φ a w) {o : Oper} (ho : ops[i]? = some o) (hr : ∀ e ∈ edgesOf o, Lis Ls e)
    (hhv : ∃ x hide re st', st = .h x hide re :: st') (hx : evD call (dsts.map (·.2)) st E h d kn kx = some out)
    (hp : ∀ φ x e env h d a w, kx x env h d = some out → XRel φ x e → SRel P LB φ0 h0 w0 φ env h d a w → Q e a w) {K : Act → World → Prop}
    (hK : ∀ b' st' E' h' d' ψ a' u, BSOK P eqT rnd ops b' → plan P eqT rnd ops dsts r b' = some st' → Inv P eqT rnd ops LB φ0 h0 w0 b' (Ls.setIfInBounds i true) E' h' d' ψ a' u → evD call (dsts.map (·.2)) st' E' h' d' kn kx = some out → K a' u) :
    wpOpIn (fen ro) 0 P ops Q i K a w := by
  obtain ⟨o', x, A, b', s, st', ho', hdo, rfl, hpl', hb', htb, hni, hel, hhs, hdone, hhs', hcase⟩ := plan_step hdsts hb hpl
  rw [ho] at ho'; cases ho'
  have hox := oAt_of ho hdo
  obtain ⟨x', hide, re, st2, hst⟩ := hhv
  have hsync : ((∃ l, oI x = .c l ∧ s = .h x (alHide A b.al) (rdRe A b.al b.rds)) ∨ (∃ l, oI x = .a l ∧ s = .h x (alHide A b.al) [])) ∧ b'.hs = i :: b.hs ∧
          ∀ k B y, (k, B) ∈ b.tb → oAt P eqT rnd ops k = some y → ∀ s ∈ useAll y, oDst x = some s → k ∈ A := by
    rcases hcase with ⟨⟨l, _, h2, _⟩ | ⟨l, t, _, _, h2, _⟩, _⟩ | h
    · rw [h2] at hst; cases hst
    · rw [h2] at hst; cases hst
    · exact h
  obtain ⟨hcs, hbhs, hwar⟩ := hsync
  have hil : i < Ls.size := by rw [inv.sz]; exact hel.lt
  have hr' : ∀ o, ops[i]? = some o → ∀ e ∈ edgesOf o, Lis Ls e := fun o' ho' => by rw [ho] at ho'; cases ho'; exact hr
  obtain ⟨hA, hsee⟩ := inv.sees hel (fun j hj => by rw [htb]; exact List.mem_cons_of_mem _ hj) (fun j hj => by rw [hbhs] at hj; exact List.mem_cons.1 hj) (fun hh => absurd hh hni) hox hil hr'
  obtain ⟨Em, hm1, hm2⟩ := mask_ex (φ := φ) inv.ln
  have hu : ∀ s ∈ useAll x, gt Em s = gt E s := fun s hs => hm2 s (hsee s hs)
  obtain ⟨hop, hdst, hnd, _⟩ := dO_inv hdo
  have hs : o.semAt ro a.eval = execOp a.eval o := semAt_of (P := P) o rnd hrnd hop hnd
  have hdx : ∀ j t, j ≠ i → (ops[j]?).bind (·.dst) = some t → oDst x ≠ some t := fun j t hj ht => by rw [← oAt_dst hox]; exact hdist i j t hj ht
  -- a pending allocation is set aside
  have alt : ∀ k j, Al P eqT rnd ops b Ls E k j → j ∉ A → k ∈ hideB E (alHide A b.al) := by
    rintro k j ⟨y, t, l, q1, q2, q3, q4, q5, q6, q7⟩ hjA
    obtain ⟨B, hB⟩ := hb.at q1
    obtain ⟨o', y', k1, k2, _, _, k5, _⟩ := (hb.el j B hB).ex
    have := oAt_of k1 k2
    rw [q3] at this; cases this
    obtain ⟨t', k6, k7⟩ := k5 l q4
    rw [q6] at k6; cases k6
    exact hideB_mem.2 ⟨t, alHide_mem k7 hjA, q7⟩
  have alA : ∀ k j, Al P eqT rnd ops b Ls E k j → j ∉ A := fun k j ⟨y, t, l, q1, q2, _⟩ hj => q2 (hA j hj)
  have hH : HRel LB φ (hideH (hideB E (alHide A b.al)) h) w := by
    have hlk := hideH_look (hideB E (alHide A b.al)) h
    have hnx := hideH_nx (hideB E (alHide A b.al)) h
    generalize hideH (hideB E (alHide A b.al)) h = hv at hlk hnx
    obtain ⟨es, nx, low⟩ := hv
    simp only at hnx hlk
    refine (inv.rel.part (by omega) fun k e hk => ?_).full fun k e hk hn => ?_
    · rw [hlk] at hk; split at hk; cases hk; exact hk
    · have hk : look es k = some e := hk
      rw [hlk] at hk
      split at hk
      · cases hk
      · rename_i hkb
        obtain ⟨j, hj⟩ := (inv.cov k e hk).2 hn
        exact hkb (alt k j hj (alA k j hj))
  have hhv : ∀ k e, look (hideH (hideB E (alHide A b.al)) h).es k = some e → ¬ k ∈ hideB E (alHide A b.al) ∧ look h.es k = some e := fun k e hk => by
    rw [hideH_look] at hk
    split at hk
    · cases hk
    · exact ⟨by assumption, hk⟩
  -- what was said of loads that are to come stays said
  have old : ∀ (v0 : Value) (j : Nat) (B : List Nat) (y : O) (l : L1), (j, B) ∈ b.tb → j ∉ A → ¬ Lis Ls j → oAt P eqT rnd ops j = some y → oI y = .a l → reads l = true → wantB (setD x v0 E) y = some true → ∃ l v hs, oI y = .a l ∧ ev1 l (setD x v0 E) hs some = some v ∧
      (∀ t, oDst y = some t → t < (setD x v0 E).length → gt (setD x v0 E) t = v) ∧ ∀ k e, look hs.es k = some e → look h.es k = some e ∧ ∀ j', Al P eqT rnd ops b Ls E k j' → j' ∈ B := by
    intro v0 j B y l hj hjA hlj hy hl hrd hwy
    have hjd : j ∈ b.tb.map (·.1) := List.mem_map.2 ⟨_, hj, rfl⟩
    have usej : ∀ s ∈ useAll y, gt (setD x v0 E) s = gt E s := fun s hs => gt_setD_other fun e => hjA (hwar j B y hj hy s hs e)
    rcases inv.pd j B y hj hlj hy with ⟨q1, _⟩ | ⟨q1, l2, v, hs2, q2, q3, q4, q5⟩ | ⟨q1, l2, vf, e, k, t, q2, _⟩
    · rw [wantB_congr usej, q1] at hwy; cases hwy
    · refine ⟨l2, v, hs2, q2, ?_, fun t ht hlt => ?_, q5⟩
      · rw [ev1_congr (E := setD x v0 E) (F := E) fun s hs => usej s (use_I (by rw [q2]; exact hs))]; exact q3
      · rw [gt_setD_other (hdx j t (fun e => hni (e ▸ hjd)) ((oAt_dst hy).trans ht))]
        exact q4 t ht (by rw [setD_len] at hlt; exact hlt)
    · rw [q2] at hl; cases hl
  unfold wpOpIn
  rw [ho]
  simp only
  have skip : wantB E x = some false → evD call (dsts.map fun p : Nat × Nat => p.2) st' (setD x undef E) h d kn kx = some out →
      (if Region.wanted o (yielded ops a.tmps) = true then o.wpIn (fen ro) 0 P a w K Q else (∀ f, o.about P w a.eval = some f → (fen ro).fn f) ∧ K (a.put o.dst Go.undef) w) := fun hw hx => by
    rw [if_neg (by rw [wanted_sound hm1 hdo hu hw]; simp), hdst]
    exact ⟨fun _ _ => trivial, hK b' st' _ h d φ _ w hb' hpl' (inv.after hb hb' ho hdo htb hni hel hdx hr hbhs hwar (dfs := a.defers) (v' := Go.undef) rfl (VRel.undef φ) rfl (fun _ _ h => h) inv.dfs (Nat.le_refl _) (fun _ _ => rfl) (old undef) (fun k e hk _ => hk) (fun k e hk => ⟨(inv.cov k e hk).1, fun _ => ⟨hk, (inv.cov k e hk).1⟩⟩) inv.rel inv.ext) hx⟩
  rcases hcs with ⟨l', h1, rfl⟩ | ⟨l', h1, rfl⟩
  · simp only [evD, guardB_want, h1] at hx
    split at hx
    · rename_i hw
      rw [if_pos (wanted_sound hm1 hdo hu hw)]
      rw [← ev3_congr (E := Em) (F := E) fun s hs => hu s (use_I (by rw [h1]; exact hs))] at hx
      rw [h1] at hop
      refine evI_sound (i := .c _) (k := fun v g d => recheck (setD x v E) (aside (hideB E (alHide A b.al)) h g) (fun _ => evD call (dsts.map fun p : Nat × Nat => p.2) st' (setD x v E) (aside (hideB E (alHide A b.al)) h g) d kn kx) (rdRe A b.al b.rds))
        (kP := fun v g => kx (.pan v) (maskD (dsts.map fun p : Nat × Nat => p.2) E) g d) (out := out) hq hC hH inv.glob hm1 inv.dfs hs hop hx (fun v g d' ψ u v' dfs k1 k2 k3 k4 => ?_) (fun v g ψ u v' k1 k2 k3 => ?_)
      · obtain ⟨r1, r2⟩ := recheck_sound _ k1
        have hnxg : h.nx ≤ g.nx := by have := k3.ext.nx; rw [hideH_nx] at this; exact this
        have same : ∀ k, k < h.nx → ψ k = φ k := fun k hk => k3.ext.same k (by rw [hideH_nx]; exact hk)
        have hanx := aside_nx (hideB E (alHide A b.al)) h g
        have hlook := aside_look (hideB E (alHide A b.al)) h g
        have holdl := aside_old (hideB E (alHide A b.al)) h g
        have hle : φ.le ψ := k3.ext.le hH
        generalize hag : aside (hideB E (alHide A b.al)) h g = h' at r1 r2 hanx hlook holdl
        obtain ⟨es, nx, low⟩ := h'
        have hanx : nx = g.nx := hanx
        subst hanx
        obtain ⟨t1, t2⟩ := frame_u (es := es) (low := low) (A := fun k => k ∈ hideB E (alHide A b.al)) inv.rel (fun k e hk => (inv.cov k e hk).1) (hideH_nx _ _) hhv k3 (fun k e hk => (hlook k e hk).imp id fun hh => hh.1)
        refine hK b' st' _ _ d' ψ _ u hb' hpl' (inv.after hb hb' ho hdo htb hni hel hdx hr hbhs hwar (h' := { es, nx := g.nx, low }) (dfs := dfs) (v' := v') (by rw [hdst]) k2 rfl hle k4 hnxg same ?_ (fun k e hk ⟨j, hjA, hj⟩ => holdl k e (alt k j hj hjA) hk) (fun k e hk => ?_) t1 (inv.ext.trans t2)) r1
        · intro j B y l hj hjA hlj hy hl hrd hwy
          obtain ⟨o', y', q1, q2, _, _, _, q6, _⟩ := (hb.el j B hj).ex
          have := oAt_of q1 q2
          rw [hy] at this; cases this
          obtain ⟨l2, v2, p1, p2, p3⟩ := r2 y _ (rdRe_mem (q6 l hl hrd fun hh => hlj (inv.hv j hh)) hjA) hwy
          refine ⟨l2, v2, _, p1, p2, fun t ht _ => p3 t ht, fun k e hk => ?_⟩
          rw [hideH_look] at hk
          split at hk
          · cases hk
          · rename_i hkb
            refine ⟨hk, ?_⟩
            rintro j' ⟨y', t', l', s1, s2, s3, s4, s5, s6, s7⟩
            by_cases hB : j' ∈ B
            · exact hB
            · obtain ⟨B', hB'⟩ := hb.at s1
              obtain ⟨o', y2, k1, k2, _, _, k5, _⟩ := (hb.el j' B' hB').ex
              have := oAt_of k1 k2
              rw [s3] at this; cases this
              obtain ⟨t2, k6, k7⟩ := k5 l' s4
              rw [s6] at k6; cases k6
              have hji : j' ≠ i := fun e => hni (e ▸ s1)
              exact (hkb (hideB_mem.2 ⟨t', alHide_mem k7 hB, by rw [gt_setD_other (hdx j' t' hji ((oAt_dst s3).trans s6))]; exact s7⟩)).elim
        · rcases hlook k e hk with ⟨_, c2⟩ | ⟨c2, _⟩
          · have := (inv.cov k e c2).1
            exact ⟨show k < g.nx by omega, fun _ => ⟨c2, this⟩⟩
          · obtain ⟨p, hp, _⟩ := k3.rel.live k e c2
            refine ⟨Nat.lt_of_not_le fun hle => ?_, fun hn => ?_⟩
            · rw [k3.rel.fresh k hle] at hp; cases hp
            · rw [hp] at hn; cases hn
      · obtain ⟨t1, t2⟩ := frame_u (es := g.es) (low := g.low) (A := fun k => k ∈ hideB E (alHide A b.al)) inv.rel (fun k e hk => (inv.cov k e hk).1) (hideH_nx _ _) hhv k3 (fun k e hk => .inr hk)
        have hle : φ.le ψ := k3.ext.le hH
        refine hp ψ (.pan v) _ _ g d a u k1 ⟨v', rfl, k2⟩ ⟨⟨k3.rel, inv.ext.trans t2⟩, inv.glob.mono hle, ?_, inv.dfs.mono hle⟩
        refine maskD_rel _ _ inv.ln fun t => ?_
        rcases inv.tm t with ⟨j, y, q1, q2, q3, q4⟩ | q
        · exact .inl (List.mem_map.2 ⟨_, hdsts j t ((oAt_dst q3).trans q4), rfl⟩)
        · exact .inr (q.mono hle)
    · rename_i hw
      exact skip hw hx
    · cases hx
  · simp only [evD, guardB_want, h1] at hx
    split at hx
    · rename_i hw
      rw [if_pos (wanted_sound hm1 hdo hu hw)]
      split at hx
      · rename_i v hv
        have hd1 : d1 P eqT o.op = some l' := by
          have := hop
          rw [h1] at this
          unfold dOp at this
          split at this
          · rename_i j hj; cases this; exact hj
          · split at this
            · cases this
            · obtain ⟨_, _, hh⟩ := map_inv this; cases hh
        rw [← ev1_congr (E := Em) (F := E) fun s hs => hu s (use_I (by rw [h1]; exact hs))] at hv
        obtain ⟨v1, v', r1, r2, r3⟩ := d1_sound (dst := o.dst) (ty := o.type) (pos := o.pos) (af := o.after) (gd := o.guard) hH inv.glob hm1 hq hd1 hv
        cases r1
        refine wp_of_value hs r3 ?_
        rw [hdst]
        exact hK b' st' _ h d φ _ w hb' hpl' (inv.after hb hb' ho hdo htb hni hel hdx hr hbhs hwar (dfs := a.defers) (v' := v') rfl r2 rfl (fun _ _ h => h) inv.dfs (Nat.le_refl _) (fun _ _ => rfl) (old v) (fun k e hk _ => hk) (fun k e hk => ⟨(inv.cov k e hk).1, fun _ => ⟨hk, (inv.cov k e hk).1⟩⟩) inv.rel inv.ext) hx
      · cases hx
    · rename_i hw
      exact skip hw hx
    · cases hx
end
end
end Go.Ev

namespace Go.Ev
open Go
noncomputable section

def cnt (Ls : Array Bool) : Nat := (Ls.toList.filter fun x => !x).length
theorem cntL_set : ∀ (l : List Bool) (i : Nat), l[i]? = some false → ((l.set i true).filter fun x => !x).length < (l.filter fun x => !x).length := by
  intro l
  induction l with
  | nil => intro i h; simp at h
  | cons x r ih =>
    intro i h
    cases i with
    | zero =>
      simp at h
      subst h
      simp
    | succ i =>
      have := ih i (by simpa using h)
      simp only [List.set_cons_succ]
      cases x <;> simp <;> omega
theorem cnt_set {Ls : Array Bool} {i : Nat} (hi : i < Ls.size) (h : ¬ Lis Ls i) : cnt (Ls.setIfInBounds i true) < cnt Ls := by
  unfold cnt
  rw [Array.toList_setIfInBounds]
  refine cntL_set _ _ ?_
  unfold Lis at h
  simp only [Array.getD_eq_getD_getElem?, Array.getElem?_eq_getElem hi, Option.getD_some] at h
  have : Ls.toList[i]? = some Ls[i] := by rw [Array.getElem?_toList, Array.getElem?_eq_getElem hi]
  rw [this]
  simpa using h
theorem cnt_zero {Ls : Array Bool} (h : cnt Ls = 0) {i : Nat} (hi : i < Ls.size) : Lis Ls i := by
  apply Classical.byContradiction
  intro hn
  have := cnt_set hi hn
  omega

section
variable {P : Program} {eqT : TypeId → Option (List SK)} {rnd : Bool} {ops : Array Oper} {LB : LBody} {φ0 φ ψ : Phi} {h0 h : H} {w0 w u : World} {b b' : BS} {Ls : Array Bool} {E E' : Env} {d : D} {a : Act} {out : Value} {Q : Exit → Act → World → Prop} {ro : Option Nat} {call : Call} {kn : KN} {kx : KX} {dsts : List (Nat × Nat)} {ds : List Nat}

def Nm (st : List DSt) : Prop := ∀ s st', st = s :: st' → ∃ x hide re, s = .h x hide re

theorem advance (hdsts : ∀ (j t : Nat), (ops[j]?).bind (·.dst) = some t → (j, t) ∈ dsts) (hdist : ∀ (i j t : Nat), j ≠ i → (ops[j]?).bind (·.dst) = some t → (ops[i]?).bind (·.dst) ≠ some t) :
    ∀ (r : List Nat) (b : BS) (st : List DSt) (E : Env) (h : H), BSOK P eqT rnd ops b → plan P eqT rnd ops dsts r b = some st → Inv P eqT rnd ops LB φ0 h0 w0 b Ls E h d φ a w → evD call ds st E h d kn kx = some out →
      ∃ b' r' st' E' h', BSOK P eqT rnd ops b' ∧ plan P eqT rnd ops dsts r' b' = some st' ∧ Nm st' ∧ Inv P eqT rnd ops LB φ0 h0 w0 b' Ls E' h' d φ a w ∧ evD call ds st' E' h' d kn kx = some out := by
  intro r
  induction r with
  | nil => intro b st E h hb hpl inv hx; exact ⟨b, [], st, E, h, hb, hpl, fun s st' e => (by simp only [plan] at hpl; split at hpl <;> cases hpl; cases e), inv, hx⟩
  | cons i r ih =>
    intro b st E h hb hpl inv hx
    obtain ⟨o, x, A, b', s, st', ho, hdo, rfl, hpl', hb', htb, hni, hel, hhs, hdone, hhs', hcase⟩ := plan_step hdsts hb hpl
    have hox := oAt_of ho hdo
    have hdx : ∀ (j t : Nat), j ≠ i → (ops[j]?).bind (·.dst) = some t → oDst x ≠ some t := fun j t hj ht => by rw [← oAt_dst hox]; exact hdist i j t hj ht
    rcases hcase with ⟨⟨l, h1, rfl, hal⟩ | ⟨l, t, h1, h2, rfl, hal⟩, hbhs, nw1, nw2⟩ | ⟨hsy, _⟩
    · simp only [evD, lightD, guardB_want, h1] at hx
      split at hx
      · rename_i hw
        split at hx
        · rename_i hrd
          split at hx
          · rename_i v hv
            exact ih b' st' _ _ hb' hpl' (inv.light hb hox htb hni hel hdone hbhs nw1 nw2 hdx (.inr (.inl ⟨hw, l, v, _, h1, hv, fun k e hk => by
              rw [hideH_look] at hk
              split at hk
              · cases hk
              · rename_i hkb
                exact ⟨hk, fun t ht hbk => hkb (hideB_mem.2 ⟨t, ht, hbk⟩)⟩, rfl, rfl⟩))) hx
          · cases hx
        · rename_i hrd
          split at hx
          · rename_i v hv
            exact ih b' st' _ _ hb' hpl' (inv.light hb hox htb hni hel hdone hbhs nw1 nw2 hdx (.inr (.inl ⟨hw, l, v, { es := [], nx := 0, low := 0 }, h1, by rw [ev1_blind hrd E _ h]; exact hv, fun k e hk => (by cases hk), rfl, rfl⟩))) hx
          · cases hx
      · rename_i hw
        exact ih b' st' _ _ hb' hpl' (inv.light hb hox htb hni hel hdone hbhs nw1 nw2 hdx (.inl ⟨hw, rfl, rfl, fun l' hl' => by rw [h1] at hl'; cases hl'⟩)) hx
      · cases hx
    · simp only [evD, lightD, guardB_want, h1, h2] at hx
      split at hx
      · rename_i hw
        split at hx
        · rename_i hlt
          rw [ev2_mk] at hx
          unfold of2 at hx
          split at hx
          · rename_i p hp
            obtain ⟨vf, e⟩ := p
            exact ih b' st' _ _ hb' hpl' (inv.light hb hox htb hni hel hdone hbhs nw1 nw2 hdx (.inr (.inr ⟨hw, l, vf, e, t, h1, hp, h2, Env.has_lt hlt, rfl, rfl⟩))) hx
          · cases hx
        · cases hx
      · rename_i hw
        exact ih b' st' _ _ hb' hpl' (inv.light hb hox htb hni hel hdone hbhs nw1 nw2 hdx (.inl ⟨hw, rfl, rfl, fun l' hl' => by rw [h1] at hl'; cases hl'⟩)) hx
      · cases hx
    · refine ⟨b, i :: r, _, E, h, hb, hpl, fun s1 st1 e => ?_, inv, hx⟩
      cases e
      rcases hsy with ⟨l, _, h2⟩ | ⟨l, _, h2⟩ <;> exact ⟨_, _, _, h2⟩

theorem plan_all (hdsts : ∀ (j t : Nat), (ops[j]?).bind (·.dst) = some t → (j, t) ∈ dsts) : ∀ (r : List Nat) (b : BS) (st : List DSt), BSOK P eqT rnd ops b → plan P eqT rnd ops dsts r b = some st → ∀ i, i < ops.size → i ∈ b.tb.map (·.1) ∨ i ∈ r := by
  intro r
  induction r with
  | nil =>
    intro b st hb hpl i hi
    simp only [plan] at hpl
    split at hpl
    · rename_i hall
      exact .inl (memb_iff.1 (List.all_eq_true.1 hall i (List.mem_range.2 hi)))
    · cases hpl
  | cons j r ih =>
    intro b st hb hpl i hi
    obtain ⟨o, x, A, b', s, st', ho, hdo, rfl, hpl', hb', htb, _⟩ := plan_step hdsts hb hpl
    rcases ih b' st' hb' hpl' i hi with h | h
    · rw [htb] at h
      rcases List.mem_cons.1 h with h | h
      · exact .inr (by rw [show i = j from h]; exact List.mem_cons_self)
      · exact .inl h
    · exact .inr (List.mem_cons_of_mem _ h)
theorem plan_later (hdsts : ∀ (j t : Nat), (ops[j]?).bind (·.dst) = some t → (j, t) ∈ dsts) : ∀ (r : List Nat) (b : BS) (st : List DSt), BSOK P eqT rnd ops b → plan P eqT rnd ops dsts r b = some st → ∀ (i : Nat), i ∈ r → i ∉ b.tb.map (fun p : Nat × List Nat => p.1) ∧
    ∃ A : List Nat, (∀ j ∈ b.hs, j ∈ A) ∧ ∀ Ls, Dn ops Ls → Lis Ls i → ∀ k ∈ A, Lis Ls k := by
  intro r
  induction r with
  | nil => intro b st _ _ i hi; simp at hi
  | cons j r ih =>
    intro b st hb hpl i hi
    obtain ⟨o, x, A, b', s, st', ho, hdo, rfl, hpl', hb', htb, hni, hel, hhs, hdone, hhs', _⟩ := plan_step hdsts hb hpl
    rcases List.mem_cons.1 hi with rfl | hi
    · exact ⟨hni, A, hhs, hel.dn⟩
    · obtain ⟨h1, B, h2, h3⟩ := ih b' st' hb' hpl' i hi
      refine ⟨fun h => h1 (by rw [htb]; exact List.mem_cons_of_mem _ h), B, fun j hj => h2 j (hhs' j hj), h3⟩

/-- when no operation is left -/
theorem Inv.done (hdsts : ∀ (j t : Nat), (ops[j]?).bind (·.dst) = some t → (j, t) ∈ dsts) {r : List Nat} {st : List DSt} (hb : BSOK P eqT rnd ops b) (hpl : plan P eqT rnd ops dsts r b = some st) (inv : Inv P eqT rnd ops LB φ0 h0 w0 b Ls E h d φ a w)
    (hx : evD call ds st E h d kn kx = some out) (hr : Region.ready .any ops Ls = [])
    (hn : ∀ φ env h d a w, kn env h d = some out → SRel P LB φ0 h0 w0 φ env h d a w → Q .normal a w) : Q .normal a w := by
  have all : ∀ tb : TB, Ord tb → (∀ p ∈ tb, p ∈ b.tb) → ∀ i ∈ tb.map (·.1), Lis Ls i := by
    intro tb
    induction tb with
    | nil => intro _ _ i hi; simp at hi
    | cons p r ih =>
      intro ho hs i hi
      obtain ⟨o1, o2⟩ := ho
      have ih := ih o2 fun q hq => hs q (List.mem_cons_of_mem _ hq)
      rcases List.mem_cons.1 hi with rfl | hi
      · apply Classical.byContradiction
        intro hnl
        have hel := hb.el p.1 p.2 (hs _ List.mem_cons_self)
        obtain ⟨o, x, k1, k2, k3, _⟩ := hel.ex
        have : p.1 ∈ Region.ready .any ops Ls := (ready_mem inv.sz).2 ⟨hel.lt, hnl, o, k1, fun e he => ih e (o1 e (k3 e he))⟩
        rw [hr] at this
        simp at this
      · exact ih i hi
  have hall := all b.tb hb.ord fun _ h => h
  cases r with
  | cons i r =>
    obtain ⟨o, x, A, b', s, st', ho, hdo, rfl, hpl', hb', htb, hni, hel, hhs, hdone, hhs', _⟩ := plan_step hdsts hb hpl
    obtain ⟨o', x', k1, k2, k3, _⟩ := hel.ex
    have : i ∈ Region.ready .any ops Ls := (ready_mem inv.sz).2 ⟨hel.lt, fun hl => hni (inv.li i hl), o', k1, fun e he => hall e (hdone e (k3 e he))⟩
    rw [hr] at this
    simp at this
  | nil =>
    simp only [plan] at hpl
    split at hpl <;> cases hpl
    refine hn φ E h d a w hx ⟨⟨inv.rel.full fun k e hk hn => ?_, inv.ext⟩, inv.glob, ⟨by have := inv.ln; unfold Env.length at this; simpa using this, fun i v v' hv hv' => ?_⟩, inv.dfs⟩
    · obtain ⟨j, y, t, l, q1, q2, _⟩ := (inv.cov k e hk).2 hn
      exact q2 (hall j q1)
    · have e1 : gt E i = v := by rw [gt_eq, List.getD_eq_getElem?_getD, hv]; rfl
      have e2 : a.eval (.tmp i) = v' := by
        show a.tmps.getD i Go.undef = v'
        have : a.tmps[i]? = some v' := by simpa using hv'
        simp [Array.getD_eq_getD_getElem?, this]
      rcases inv.tm i with ⟨j, y, q1, q2, _⟩ | q
      · exact (q2 (hall j q1)).elim
      · rw [e1, e2] at q; exact q

theorem drawn (hq : ∀ t s, eqT t = some s → EqSpec P t s) (hC : CallOK P LB call) (hrnd : rnd = ro.isSome) (hdsts : ∀ (j t : Nat), (ops[j]?).bind (·.dst) = some t → (j, t) ∈ dsts) (hdist : ∀ (i j t : Nat), j ≠ i → (ops[j]?).bind (·.dst) = some t → (ops[i]?).bind (·.dst) ≠ some t)
    (hn : ∀ φ env h d a w, kn env h d = some out → SRel P LB φ0 h0 w0 φ env h d a w → Q .normal a w)
    (hp : ∀ φ x e env h d a w, kx x env h d = some out → XRel φ x e → SRel P LB φ0 h0 w0 φ env h d a w → Q e a w) :
    ∀ (fuel : Nat) (b : BS) (r : List Nat) (st : List DSt) (Ls : Array Bool) (E : Env) (h : H) (d : D) (φ : Phi) (a : Act) (w : World), BSOK P eqT rnd ops b → plan P eqT rnd ops dsts r b = some st → Nm st →
      Inv P eqT rnd ops LB φ0 h0 w0 b Ls E h d φ a w → evD call (dsts.map fun p : Nat × Nat => p.2) st E h d kn kx = some out → cnt Ls ≤ fuel → wpAnyIn (fen ro) 0 P .any ops Q fuel Ls a w := by
  intro fuel
  induction fuel with
  | zero =>
    intro b r st Ls E h d φ a w hb hpl hnm inv hx hc
    have hr : Region.ready .any ops Ls = [] := List.eq_nil_iff_forall_not_mem.2 fun i hi => by
      obtain ⟨h1, h2, _⟩ := (ready_mem inv.sz).1 hi
      exact h2 (cnt_zero (by omega) (by rw [inv.sz]; exact h1))
    exact ⟨hr, inv.done hdsts hb hpl hx hr hn⟩
  | succ fuel ih =>
    intro b r st Ls E h d φ a w hb hpl hnm inv hx hc
    refine ⟨fun hr => inv.done hdsts hb hpl hx hr hn, fun i hi => ?_⟩
    obtain ⟨h1, h2, o, ho, hed⟩ := (ready_mem inv.sz).1 hi
    have hil : i < Ls.size := by rw [inv.sz]; exact h1
    have hcnt := cnt_set hil h2
    have hr' : ∀ o, ops[i]? = some o → ∀ e ∈ edgesOf o, Lis Ls e := fun o' ho' => by rw [ho] at ho'; cases ho'; exact hed
    by_cases hib : i ∈ b.tb.map (·.1)
    · obtain ⟨A, hA⟩ := hb.at hib
      obtain ⟨o', x, k1, k2, _, _, _, _, k7, _⟩ := (hb.el i A hA).ex
      rw [ho] at k1; cases k1
      refine inv.real hq hb hrnd hA ho k2 h2 hed (fun l hl => h2 (inv.hv i (k7 l hl))) fun ψ a u inv' => ?_
      exact ih b r st _ E h d ψ a u hb hpl hnm inv' hx (by omega)
    · have hir := (plan_all hdsts r b st hb hpl i h1).resolve_left hib
      cases r with
      | nil => simp at hir
      | cons y r =>
        by_cases hiy : i = y
        · subst hiy
          have hstep : ∃ x hide re st', st = .h x hide re :: st' := by
            obtain ⟨o', x, A, b', s, st', _, _, e, _⟩ := plan_step hdsts hb hpl
            obtain ⟨x, hide, re, e2⟩ := hnm s st' e
            exact ⟨x, hide, re, st', by rw [e, e2]⟩
          refine inv.heavy hq hC hrnd hdsts hdist hb hpl ho hed hstep hx hp fun b' st' E' h' d' ψ a' u hb' hpl' inv' hx' => ?_
          obtain ⟨b2, r2, st2, E2, h2', q1, q2, q3, q4, q5⟩ := advance hdsts hdist r b' st' E' h' hb' hpl' inv' hx'
          exact ih b2 r2 st2 _ E2 h2' d' ψ a' u q1 q2 q3 q4 q5 (by omega)
        · exfalso
          have hir := (List.mem_cons.1 hir).resolve_left hiy
          obtain ⟨o', x, A, b', s, st', ho', hdo, rfl, hpl', hb', htb, hni, hel, hhs, hdone, hhs', hcase⟩ := plan_step hdsts hb hpl
          have hy : y ∈ b'.hs := by
            rcases hcase with ⟨⟨l, _, h2, _⟩ | ⟨l, t, _, _, h2, _⟩, _⟩ | ⟨_, h3, _⟩
            · obtain ⟨_, _, _, h4⟩ := hnm _ _ rfl; rw [h2] at h4; cases h4
            · obtain ⟨_, _, _, h4⟩ := hnm _ _ rfl; rw [h2] at h4; cases h4
            · rw [h3]; exact List.mem_cons_self
          obtain ⟨q1, B, q2, q3⟩ := plan_later hdsts r b' st' hb' hpl' i hir
          have := q3 _ (dn_set hil inv.dn hr') ((lis_set hil).2 (.inl rfl)) y (q2 y hy)
          rcases (lis_set hil).1 this with e | hly
          · exact hiy e.symm
          · exact hni (inv.li y hly)
end

theorem nodupB_iff {l : List Nat} (h : nodupB l = true) : l.Nodup := by
  induction l with
  | nil => exact List.nodup_nil
  | cons x r ih =>
    simp only [nodupB, Bool.and_eq_true, Bool.not_eq_true'] at h
    exact List.nodup_cons.2 ⟨memb_false.1 h.1, ih h.2⟩
theorem nodup_map_inj {l : List (Nat × Nat)} (h : (l.map (·.2)).Nodup) : ∀ {p q : Nat × Nat}, p ∈ l → q ∈ l → p.2 = q.2 → p = q := by
  induction l with
  | nil => intro p q hp; simp at hp
  | cons x r ih =>
    intro p q hp hq e
    rw [List.map_cons, List.nodup_cons] at h
    rcases List.mem_cons.1 hp with e1 | hp1 <;> rcases List.mem_cons.1 hq with e2 | hq1
    · rw [e1, e2]
    · exact (h.1 (List.mem_map.2 ⟨q, hq1, by rw [← e, e1]⟩)).elim
    · exact (h.1 (List.mem_map.2 ⟨p, hp1, by rw [e, e2]⟩)).elim
    · exact ih h.2 hp1 hq1 e

theorem evD_ok (P : Program) (eqT : TypeId → Option (List SK)) (LB : LBody) (hq : ∀ t s, eqT t = some s → EqSpec P t s) : RdOK P eqT LB evD (drOf P eqT) := by
  intro ro call φ0 φ h0 h w0 w env d a id ops ds st kn kx out Q hC hdr s hx hn hp
  unfold drOf at hdr
  split at hdr
  · rename_i hcond
    simp only [Bool.and_eq_true, Bool.or_eq_true] at hcond
    obtain ⟨hmix, hnd⟩ := hcond
    obtain ⟨st', hpl, he⟩ := map_inv hdr
    cases he
    have hdsts : ∀ (j t : Nat), (ops[j]?).bind (·.dst) = some t → (j, t) ∈ dstsOf ops (List.range ops.size) := fun j t hj => by
      unfold dstsOf
      refine List.mem_filterMap.2 ⟨j, List.mem_range.2 ?_, by rw [hj]; rfl⟩
      cases ho : ops[j]? with
      | none => rw [ho] at hj; cases hj
      | some o => exact (Array.getElem?_eq_some_iff.1 ho).1
    have hdist : ∀ (i j t : Nat), j ≠ i → (ops[j]?).bind (·.dst) = some t → (ops[i]?).bind (·.dst) ≠ some t := fun i j t hji hj hi => by
      have := nodup_map_inj (nodupB_iff hnd) (hdsts j t hj) (hdsts i t hi) rfl
      exact hji (by cases this; rfl)
    refine wpIn_region_draw fun t => ?_
    have hsch : Region.schedule (P.follows .mixedOrders) ops t = Region.linearise .any ops t := by
      unfold Region.schedule
      rw [if_pos]
      rcases hmix with h | h
      · simp [h]
      · simp only [Bool.not_eq_true'] at h; simp [h]
    rw [hsch]
    refine wpAnyIn_sound ops.size t _ a _ ?_
    have nol : ∀ i, ¬ Lis (Array.replicate ops.size false) i := fun i h => by
      unfold Lis at h
      simp [Array.getD_eq_getD_getElem?, Array.getElem?_replicate] at h
      split at h <;> simp at h
    have hb0 : BSOK P eqT ro.isSome ops ⟨[], [], [], [], []⟩ := ⟨fun i A h => by simp at h, List.nodup_nil, trivial⟩
    have inv0 : Inv P eqT ro.isSome ops LB φ0 h0 w0 ⟨[], [], [], [], []⟩ (Array.replicate ops.size false) env h d φ a w.drew := by
      refine ⟨by simp, fun i o hi => (nol i hi).elim, fun i hi => (nol i hi).elim, fun i hi => by simp at hi, fun t => .inr (gt_rel s.env t), by have := s.env.1; unfold Env.length; simpa using this, fun i A x hi => by simp at hi, fun k e hk => ?_,
        fun k j j' ⟨y, t, l, q1, _⟩ => by simp at q1, s.step.rel.drew.u, ?_, s.glob, s.dfs⟩
      · obtain ⟨p, hp, _⟩ := s.step.rel.live k e hk
        exact ⟨Nat.lt_of_not_le fun hle => (by rw [s.step.rel.fresh k hle] at hp; cases hp), fun hn => (by rw [hp] at hn; cases hn)⟩
      · have x := s.step.ext
        exact ⟨x.same, x.nx, x.size, x.os, x.tape, x.output, x.keep, x.img⟩
    obtain ⟨b2, r2, st2, E2, h2', q1, q2, q3, q4, q5⟩ := advance hdsts hdist _ _ _ _ _ hb0 hpl inv0 hx
    exact drawn hq hC rfl hdsts hdist hn hp ops.size b2 r2 st2 _ E2 h2' d φ a w.drew q1 q2 q3 q4 q5 (by
      unfold cnt
      refine Nat.le_trans (List.length_filter_le _ _) ?_
      simp)
  · cases hdr
end
end Go.Ev
