/- Part of a shadow evaluator for the program's form, proved sound over the kit's rules: a means for closed calls. No condition. -/
import Derived.RangeFuncIn
import Derived.RangeFuncLeaves
import Derived.Test.YtmihmfnheeciaaaGreatDoorEvC
set_option linter.unusedVariables false
set_option linter.unusedSimpArgs false
namespace Go.Ev
open Go
noncomputable section

/-! ### Code -/
abbrev RD := Call → List Nat → List DSt → Env → H → D → KN → KX → R

def loopD (f : Env → H → D → KN → KX → R) (kx : KX) (n : Nat) : Env → H → D → R :=
  Nat.rec (motive := fun _ => Env → H → D → R) (fun _ _ _ => none) (fun _ ih env h d => f env h d (fun env h d => ih env h d) kx) n
def inBlock (id : Nat) (x : X) (a b : Unit → R) : R := match x with
  | .exit i => (match Nat.beq i id with | true => a () | false => b ())
  | _ => b ()
/-- out of a scope: by a jump to its label, back into it -/
def inScope (l : Nat) (x : X) (a b : Unit → R) : R := match x with
  | .goto i => (match Nat.beq i l with | true => a () | false => none)
  | _ => b ()
def noGoto (x : X) (b : Unit → R) : R := match x with
  | .goto _ => none
  | _ => b ()
def scopeD (l : Nat) (f : Env → H → D → KN → KX → R) (kn : KN) (kx : KX) : Nat → Env → H → D → R
  | 0, _, _, _ => none
  | n + 1, env, h, d => f env h d kn fun x env h d => inScope l x (fun _ => scopeD l f kn kx n env h d) (fun _ => kx x env h d)
/-- a range over a function -/
def rangeable (okf : Nat → Bool) : Value → Bool
  | .func (.func f) _ _ => okf f
  | _ => false
def evRF (okf : Nat → Bool) (call : Call) (g : Value) (body : RB) (env : Env) (h : H) (d : D) (kn : KN) (kx : KX) : R :=
  match rangeable okf g with
  | false => none
  | true => callV call g [.func (.yield (Nat.succ h.nx)) #[] #[]]
    { es := (Nat.succ h.nx, .loop body env .normal false) :: (h.nx, .dfr) :: h.es, nx := Nat.succ (Nat.succ h.nx), low := h.low }
    (fun _ g => match look g.es (Nat.succ h.nx) with
      | some (.loop _ _ x _) => (match x with
        | .normal => kn env { es := del g.es (Nat.succ h.nx), nx := g.nx, low := g.low } (.coll h.nx :: d)
        | .pan _ => none
        | x => kx x env { es := del g.es (Nat.succ h.nx), nx := g.nx, low := g.low } (.coll h.nx :: d))
      | _ => none)
    (fun v g => kx (.pan v) env { es := del g.es (Nat.succ h.nx), nx := g.nx, low := g.low } (.coll h.nx :: d))

def evC (N : Nat) (okf : Nat → Bool) (rd : RD) (call : Call) (c : C) : Env → H → D → KN → KX → R :=
  C.rec (motive := fun _ => Env → H → D → KN → KX → R)
    (fun env h d kn _ => kn env h d)
    (fun ops env h d kn kx => evOps call ops env h d kn kx)
    (fun ds st env h d kn kx => rd call ds st env h d kn kx)
    (fun _ _ ix iy env h d kn kx => ix env h d (fun env h d => iy env h d kn kx) kx)
    (fun c _ _ ix iy env h d kn kx => cond (ev env c) (fun _ => ix env h d kn kx) (fun _ => iy env h d kn kx))
    (fun id _ ic env h d kn kx => ic env h d kn fun x env h d => inBlock id x (fun _ => kn env h d) (fun _ => kx x env h d))
    (fun _ ic env h d _ kx => loopD ic kx N env h d)
    (fun g ps ca cb _ _ env h d kn kx => evRF okf call (ev env g) ⟨ps, ca, cb⟩ env h d kn kx)
    (fun i env h d _ kx => kx (.exit i) env h d)
    (fun _ ic env h d kn kx => ic env h d kn fun x env h d => noGoto x fun _ => kx x env h d)
    (fun _ l _ ic ir env h d kn kx => ic env h d kn fun x env h d => inScope l x (fun _ => scopeD l ir kn kx N env h d) (fun _ => kx x env h d))
    (fun _ env h d kn _ => kn env h d)
    (fun l env h d _ kx => kx (.goto l) env h d)
    (fun env h d _ kx => kx .ret env h d)
    (fun _ _ _ _ _ => none) c

/-! ### Decoding -/
def isDefer : I → Bool
  | .c (.defer ..) => true
  | _ => false
def dO (P : Program) (eqT : TypeId → Option (List SK)) (rnd : Bool) (ops : Array Oper) (o : Oper) : Option O :=
  match dOp P eqT o.op with
  | none => none
  | some i => match rnd && isDefer i with
    | true => none
    | false => match o.guard, o.dst with
      | none, some d => some (.o d i)
      | none, none => some (.n i)
      | some g, some d => (match (ops[g.1]?).bind (·.dst) with | some t => some (.g t g.2 d i) | none => none)
      | some _, none => none
def dOs (P : Program) (eqT : TypeId → Option (List SK)) (rnd : Bool) (ops : Array Oper) : List Nat → Option (List O)
  | [] => some []
  | i :: r => match (ops[i]?).bind (dO P eqT rnd ops), dOs P eqT rnd ops r with
    | some x, some l => some (x :: l)
    | _, _ => none

/-! ### States -/
structure SRel (P : Program) (LB : LBody) (φ0 : Phi) (h0 : H) (w0 : World) (φ : Phi) (env : Env) (h : H) (d : D) (a : Act) (w : World) : Prop where
  step : Step LB φ0 h0 w0 φ h w
  glob : GRel P φ
  env : LRel φ env a.tmps.toList
  dfs : DRel φ d a.defers
def XRel (φ : Phi) : X → Exit → Prop
  | .normal, _ => False
  | .exit i, e => e = .exit i
  | .goto l, e => e = .goto l
  | .ret, e => e = .ret
  | .pan v, e => ∃ v', e = .panic [{ v := v', recovered := false }] ∧ VRel φ v v'
theorem Step.trans {LB : LBody} {φ0 φ ψ : Phi} {h0 h g : H} {w0 w u : World} (a : Step LB φ0 h0 w0 φ h w) (b : Step LB φ h w ψ g u) : Step LB φ0 h0 w0 ψ g u := ⟨b.rel, a.ext.trans b.ext⟩
theorem GRel.mono {P : Program} {φ ψ : Phi} (hle : φ.le ψ) (h : GRel P φ) : GRel P ψ := fun g hg => let ⟨p, a, b⟩ := h g hg; ⟨p, hle _ _ a, b⟩

section
variable {P : Program} {LB : LBody} {φ0 φ : Phi} {h0 h : H} {w0 w : World} {out : Value} {env : Env} {a : Act} {d : D} {ro : Option Nat} {call : Call} {eqT : TypeId → Option (List SK)} {Q : Exit → Act → World → Prop} {kn : KN} {kx : KX}

theorem SRel.next {ψ : Phi} {g : H} {u : World} {d' : D} {dfs : List Deferred} {v v' : Value} (s : SRel P LB φ0 h0 w0 φ env h d a w) (b : Step LB φ h w ψ g u) (hv : VRel ψ v v') (hd : DRel ψ d' dfs) (t : Nat) :
    SRel P LB φ0 h0 w0 ψ (env.set t v) g d' ({ a with defers := dfs }.put (some t) v') u :=
  have le := b.ext.le s.step.rel
  ⟨s.step.trans b, s.glob.mono le, by
    show LRel ψ (env.l.set t v) (a.tmps.setIfInBounds t v').toList
    rw [Array.toList_setIfInBounds]
    exact (s.env.mono le).set t hv, hd⟩
theorem SRel.next0 {ψ : Phi} {g : H} {u : World} {d' : D} {dfs : List Deferred} {v' : Value} (s : SRel P LB φ0 h0 w0 φ env h d a w) (b : Step LB φ h w ψ g u) (hd : DRel ψ d' dfs) :
    SRel P LB φ0 h0 w0 ψ env g d' ({ a with defers := dfs }.put none v') u :=
  have le := b.ext.le s.step.rel
  ⟨s.step.trans b, s.glob.mono le, s.env.mono le, hd⟩
theorem SRel.moved {ψ : Phi} {g : H} {u : World} (s : SRel P LB φ0 h0 w0 φ env h d a w) (b : Step LB φ h w ψ g u) : SRel P LB φ0 h0 w0 ψ env g d a u :=
  have le := b.ext.le s.step.rel
  ⟨s.step.trans b, s.glob.mono le, s.env.mono le, s.dfs.mono le⟩
theorem SRel.skipped (s : SRel P LB φ0 h0 w0 φ env h d a w) (t : Nat) : SRel P LB φ0 h0 w0 φ (env.set t undef) h d (a.put (some t) Go.undef) w :=
  ⟨s.step, s.glob, by
    show LRel φ (env.l.set t undef) (a.tmps.setIfInBounds t Go.undef).toList
    rw [Array.toList_setIfInBounds]
    exact s.env.set t (VRel.undef φ), s.dfs⟩

/-- whether the guard lets the operation be run -/
theorem isB_sound {ops : Array Oper} {j t : Nat} {want : Bool} {o : Oper} (hE : LRel φ env a.tmps.toList) (hg : o.guard = some (j, want)) (ht : (ops[j]?).bind (·.dst) = some t) {x y : Unit → R}
    (hx : isB (gt env t) want x y = some out) :
    (Region.wanted o (yielded ops a.tmps) = true ∧ x () = some out) ∨ (Region.wanted o (yielded ops a.tmps) = false ∧ y () = some out) := by
  have r := gt_rel hE t
  unfold Region.wanted yielded
  simp only [hg, ht, Option.bind_some]
  have hv : a.eval (.tmp t) = a.tmps.getD t Go.undef := rfl
  rw [hv] at r
  unfold isB at hx
  generalize hgt : gt env t = gv at hx r
  have hsome : ∀ {z : Value}, a.tmps.getD t Go.undef = z → z ≠ Go.undef → a.tmps[t]? = some z := fun {z} h1 h2 => by
    rw [Array.getD_eq_getD_getElem?] at h1
    cases hq : a.tmps[t]? with
    | none => rw [hq] at h1; exact absurd h1.symm h2
    | some q => rw [hq] at h1; simp at h1; rw [h1]
  split at hx
  · have := hsome r.inv_bool (by simp [Go.undef])
    rw [this]
    cases want <;> simp at hx ⊢ <;> exact hx
  · have := hsome r.inv_bool (by simp [Go.undef])
    rw [this]
    cases want <;> simp at hx ⊢ <;> exact hx
  · rename_i c
    obtain ⟨c', hc, _⟩ := r.inv_tuple
    refine .inr ⟨?_, hx⟩
    rw [Array.getD_eq_getD_getElem?] at hc
    cases hq : a.tmps[t]? with
    | none => rfl
    | some q => rw [hq] at hc; simp at hc; rw [hc]; rfl
  · cases hx

theorem semAt_of (o : Oper) (rnd : Bool) (hr : rnd = ro.isSome) {i : I} (hd : dOp P eqT o.op = some i) (hi : (rnd && isDefer i) = false) : o.semAt ro a.eval = execOp a.eval o := by
  cases hro : ro with
  | none => rfl
  | some l =>
    refine Oper.semAt_eq _ _ _ fun c hc => ?_
    rw [hc] at hd
    have : d1 P eqT (.defer c) = none := rfl
    have h2 : d2 P (.defer c) = none := rfl
    simp only [dOp, this, h2] at hd
    obtain ⟨j, hj, rfl⟩ := map_inv hd
    rw [hro] at hr
    subst hr
    simp only [d3] at hj
    split at hj
    · split at hj <;> cases hj
      simp [isDefer] at hi
    · cases hj

theorem evO_sound (hq : ∀ t s, eqT t = some s → EqSpec P t s) (hC : CallOK P LB call) {rnd : Bool} (hr : rnd = ro.isSome) {ops : Array Oper} {o : Oper} {x : O} {os : List O} {next : Act → World → Prop}
    (hd : dO P eqT rnd ops o = some x) (s : SRel P LB φ0 h0 w0 φ env h d a w) (hx : evOps call (x :: os) env h d kn kx = some out)
    (hn : ∀ φ env h d a w, evOps call os env h d kn kx = some out → SRel P LB φ0 h0 w0 φ env h d a w → next a w)
    (hp : ∀ φ x e env h d a w, kx x env h d = some out → XRel φ x e → SRel P LB φ0 h0 w0 φ env h d a w → Q e a w) :
    if Region.wanted o (yielded ops a.tmps) then o.wpIn (fen ro) 0 P a w next Q else (∀ f, o.about P w a.eval = some f → (fen ro).fn f) ∧ next (a.put o.dst Go.undef) w := by
  unfold dO at hd
  split at hd
  · cases hd
  · rename_i i hi
    split at hd
    · cases hd
    · rename_i hnd
      have hs : o.semAt ro a.eval = execOp a.eval o := semAt_of (P := P) o rnd hr hi hnd
      have pan : ∀ v g ψ u v', kx (.pan v) env g d = some out → VRel ψ v v' → Step LB φ h w ψ g u → Q (.panic [{ v := v', recovered := false }]) a u :=
        fun v g ψ u v' h1 h2 h3 => hp ψ _ _ _ _ _ _ _ h1 ⟨v', rfl, h2⟩ (s.moved h3)
      split at hd
      · rename_i t hg hdst
        cases hd
        rw [if_pos (by simp [Region.wanted, hg])]
        refine evI_sound hq hC s.step.rel s.glob s.env s.dfs hs hi (show evI call i env h d (fun v h d => evOps call os (env.set t v) h d kn kx) (fun v h => kx (.pan v) env h d) = some out from hx) (fun v g d' ψ u v' dfs h1 h2 h3 h4 => ?_) pan
        rw [hdst]
        exact hn _ _ _ _ _ _ h1 (s.next h3 h2 h4 t)
      · rename_i hg hdst
        cases hd
        rw [if_pos (by simp [Region.wanted, hg])]
        refine evI_sound hq hC s.step.rel s.glob s.env s.dfs hs hi (show evI call i env h d (fun _ h d => evOps call os env h d kn kx) (fun v h => kx (.pan v) env h d) = some out from hx) (fun v g d' ψ u v' dfs h1 h2 h3 h4 => ?_) pan
        rw [hdst]
        exact hn _ _ _ _ _ _ h1 (s.next0 h3 h4)
      · rename_i g t hg hdst
        split at hd <;> cases hd
        rename_i tg htg
        obtain ⟨j, want⟩ := g
        have hx' : isB (gt env tg) want (fun _ => evI call i env h d (fun v h d => evOps call os (env.set t v) h d kn kx) (fun v h => kx (.pan v) env h d)) (fun _ => evOps call os (env.set t undef) h d kn kx) = some out := hx
        rcases isB_sound s.env hg htg hx' with ⟨hw, h1⟩ | ⟨hw, h1⟩
        · rw [if_pos hw]
          refine evI_sound hq hC s.step.rel s.glob s.env s.dfs hs hi h1 (fun v g d' ψ u v' dfs h1 h2 h3 h4 => ?_) pan
          rw [hdst]
          exact hn _ _ _ _ _ _ h1 (s.next h3 h2 h4 t)
        · rw [if_neg (by simp [hw]), hdst]
          exact ⟨fun _ _ => trivial, hn _ _ _ _ _ _ h1 (s.skipped t)⟩
      · cases hd

theorem evOps_sound (hq : ∀ t s, eqT t = some s → EqSpec P t s) (hC : CallOK P LB call) {rnd : Bool} (hr : rnd = ro.isSome) {ops : Array Oper}
    (hn : ∀ φ env h d a w, kn env h d = some out → SRel P LB φ0 h0 w0 φ env h d a w → Q .normal a w)
    (hp : ∀ φ x e env h d a w, kx x env h d = some out → XRel φ x e → SRel P LB φ0 h0 w0 φ env h d a w → Q e a w) (l : List Nat) :
    ∀ (os : List O) φ env h d a w, dOs P eqT rnd ops l = some os → SRel P LB φ0 h0 w0 φ env h d a w → evOps call os env h d kn kx = some out → wpOpsIn (fen ro) 0 P ops Q l a w := by
  induction l with
  | nil =>
    intro os φ env h d a w hd s hx
    cases hd
    exact hn _ _ _ _ _ _ hx s
  | cons i r ih =>
    intro os φ env h d a w hd s hx
    simp only [dOs] at hd
    split at hd <;> cases hd
    rename_i x os' h1 h2
    cases ho : ops[i]? with
    | none => rw [ho] at h1; cases h1
    | some o =>
      rw [ho] at h1
      simp only [wpOpsIn, ho]
      exact evO_sound hq hC hr h1 s hx (fun φ env h d a w k1 k2 => ih _ φ env h d a w h2 k2 k1) hp
end
end
end Go.Ev

namespace Go.Ev
open Go
noncomputable section

section
variable {F : Fence} {n : Nat} {P : Program} {b : Frame} {a : Act} {k : List Item} {cs : List Frame} {w : World} {Q : Exit → Act → World → Prop}
theorem stepR_scope {c : Code} : step P (lone (b.atR a (.code (.scope c) :: k)) cs w) = .next (lone (b.atR a (.code c :: .inScope c :: k)) cs w) :=
  step_lone_go (by simp [stepG, stepG.exec, Frame.atR])
theorem stepR_inScope {c : Code} : step P (lone (b.atR a (.inScope c :: k)) cs w) = .next (lone (b.atR a k) cs w) :=
  step_lone_go (by simp [stepG, stepG.exec, Frame.atR])

/-- what is asked within a scope: a jump, only to its label -/
def scPost (l : Nat) (J : Act → World → Prop) (Q : Exit → Act → World → Prop) : Exit → Act → World → Prop
  | .goto l', a, w => l' = l ∧ J a w
  | e, a, w => Q e a w
def sc0Post (Q : Exit → Act → World → Prop) : Exit → Act → World → Prop
  | .goto _, _, _ => False
  | e, a, w => Q e a w

theorem wpIn_scope0 {c : Code} (h : c.wpIn F n P (sc0Post Q) a w) : (Code.scope c).wpIn F n P Q a w := by
  intro b k cs hro hb hr
  have h0 : (lone (b.atR a (.code (.scope c) :: k)) cs w).fenced P F := fenced_calm hb hr rfl
  obtain ⟨e, a₁, w₁, hq, harr⟩ := h b (.inScope c :: k) cs hro hb hr
  cases e with
  | normal => exact ⟨.normal, a₁, w₁, hq, .head h0 stepR_scope (StepsIn.trans harr (.one (fenced_calm hb hr rfl) stepR_inScope))⟩
  | exit id =>
    have hx : exitTo id (.inScope c :: k) = exitTo id k := by simp [exitTo]
    exact ⟨.exit id, a₁, w₁, hq, fun k' hk => .head h0 stepR_scope (harr.1 k' (by rw [hx]; exact hk)),
      fun hr' hk => let ⟨k₁, h1, h2⟩ := harr.2 hr' (by rw [hx]; exact hk); ⟨k₁, h1, .head h0 stepR_scope h2⟩⟩
  | goto l => exact hq.elim
  | ret => exact ⟨_, a₁, w₁, hq, .of_steps (.one h0 stepR_scope) harr⟩
  | panic ch => exact ⟨_, a₁, w₁, hq, .of_steps (.one h0 stepR_scope) harr⟩
  | outgrown => exact ⟨_, a₁, w₁, hq, .of_steps (.one h0 stepR_scope) harr⟩

theorem wpIn_scope {c rest : Code} {l : Nat} (hf : findLabel c l = some rest) (I : Nat → Act → World → Prop)
    (again : ∀ m a w, I m a w → rest.wpIn F n P (scPost l (fun a w => ∃ m', m' < m ∧ I m' a w) Q) a w)
    (h : c.wpIn F n P (scPost l (fun a w => ∃ m, I m a w) Q) a w) : (Code.scope c).wpIn F n P Q a w := by
  intro b k cs hro hb hr
  have h0 : (lone (b.atR a (.code (.scope c) :: k)) cs w).fenced P F := fenced_calm hb hr rfl
  have hg : gotoIn l (.inScope c :: k) = some (.code rest :: .inScope c :: k) := by simp [gotoIn, hf]
  have hx : ∀ id, exitTo id (.inScope c :: k) = exitTo id k := fun id => by simp [exitTo]
  have key : ∀ m a w, I m a w → ∃ e a' w', Q e a' w' ∧ ArrivesIn (Machine.fenced P F) P (lone (b.atR a (.code rest :: .inScope c :: k)) cs w) b k cs e a' w' := by
    intro m
    induction m using Nat.strongRecOn with
    | _ m ih =>
      intro a w hI
      obtain ⟨e, a₁, w₁, hq, harr⟩ := again m a w hI b (.inScope c :: k) cs hro hb hr
      cases e with
      | normal => exact ⟨.normal, a₁, w₁, hq, StepsIn.trans harr (.one (fenced_calm hb hr rfl) stepR_inScope)⟩
      | exit id => exact ⟨.exit id, a₁, w₁, hq, fun k' hk => harr.1 k' (by rw [hx]; exact hk), fun hr' hk => harr.2 hr' (by rw [hx]; exact hk)⟩
      | goto l' =>
        obtain ⟨rfl, m', hlt, hJ⟩ := hq
        obtain ⟨e₂, a₂, w₂, hq₂, harr₂⟩ := ih m' hlt a₁ w₁ hJ
        exact ⟨e₂, a₂, w₂, hq₂, .of_steps (harr.1 _ hg) harr₂⟩
      | ret => exact ⟨_, a₁, w₁, hq, harr⟩
      | panic ch => exact ⟨_, a₁, w₁, hq, harr⟩
      | outgrown => exact ⟨_, a₁, w₁, hq, harr⟩
  obtain ⟨e, a₁, w₁, hq, harr⟩ := h b (.inScope c :: k) cs hro hb hr
  cases e with
  | normal => exact ⟨.normal, a₁, w₁, hq, .head h0 stepR_scope (StepsIn.trans harr (.one (fenced_calm hb hr rfl) stepR_inScope))⟩
  | exit id =>
    exact ⟨.exit id, a₁, w₁, hq, fun k' hk => .head h0 stepR_scope (harr.1 k' (by rw [hx]; exact hk)),
      fun hr' hk => let ⟨k₁, h1, h2⟩ := harr.2 hr' (by rw [hx]; exact hk); ⟨k₁, h1, .head h0 stepR_scope h2⟩⟩
  | goto l' =>
    obtain ⟨rfl, m, hJ⟩ := hq
    obtain ⟨e₂, a₂, w₂, hq₂, harr₂⟩ := key m a₁ w₁ hJ
    exact ⟨e₂, a₂, w₂, hq₂, .of_steps (.head h0 stepR_scope (harr.1 _ hg)) harr₂⟩
  | ret => exact ⟨_, a₁, w₁, hq, .of_steps (.one h0 stepR_scope) harr⟩
  | panic ch => exact ⟨_, a₁, w₁, hq, .of_steps (.one h0 stepR_scope) harr⟩
  | outgrown => exact ⟨_, a₁, w₁, hq, .of_steps (.one h0 stepR_scope) harr⟩
end
end
end Go.Ev

namespace Go.Ev
open Go
noncomputable section

/-! ### Decoding code -/
def cfind : C → Nat → Option C
  | .seq a b, l => (match cfind a l with
    | some r => some (.seq r b)
    | none => cfind b l)
  | .label l', l => if l' == l then some .skip else none
  | _, _ => none
def spine : C → Option Nat
  | .seq a b => (match spine a with | some l => some l | none => spine b)
  | .label l => some l
  | _ => none
def dC (P : Program) (eqT : TypeId → Option (List SK)) (dr : Bool → Array Oper → Option (List Nat × List DSt)) (rnd : Bool) : Code → Option C
  | .skip => some .skip
  | .region _ ops false => (match dOs P eqT rnd ops (List.range ops.size) with | some l => some (.reg l) | none => some .bad)
  | .region _ ops true => (match dr rnd ops with | some p => some (.dreg p.1 p.2) | none => some .bad)
  | .seq x y => (match dC P eqT dr rnd x, dC P eqT dr rnd y with | some x, some y => some (.seq x y) | _, _ => none)
  | .cond c x y => (match dOpd P c, dC P eqT dr rnd x, dC P eqT dr rnd y with | some c, some x, some y => some (.cond c x y) | _, _, _ => some .bad)
  | .block i c => (dC P eqT dr rnd c).map (.block i)
  | .loop c => (dC P eqT dr rnd c).map .loop
  | .rangeFunc g ps x y => (match rnd with
    | true => some .bad
    | false => (match dOpd P g, dC P eqT dr true x, dC P eqT dr true y with | some g, some x, some y => some (.rfunc g ps.toList x y) | _, _, _ => some .bad))
  | .exit i => some (.exit i)
  | .goto l => some (.goto l)
  | .ret => some .ret
  | .label l => some (.label l)
  | .scope c => (match dC P eqT dr rnd c with
    | none => some .bad
    | some c => (match spine c with
      | none => some (.scope0 c)
      | some l => (match cfind c l with | some r => some (.scope c l r) | none => some .bad)))
  | .refuse _ => some .bad

/-- the rounds that the shadow knows -/
def LB (P : Program) (eqT : TypeId → Option (List SK)) (dr : Bool → Array Oper → Option (List Nat × List DSt)) : LBody := fun rb r =>
  r.params.toList = rb.ps ∧ dC P eqT dr true r.assign = some rb.ca ∧ dC P eqT dr true r.body = some rb.cb
theorem cfind_sound {P : Program} {eqT : TypeId → Option (List SK)} {dr : Bool → Array Oper → Option (List Nat × List DSt)} {rnd : Bool} : ∀ {c : Code} {c' : C} {l : Nat}, dC P eqT dr rnd c = some c' →
    (∀ r', cfind c' l = some r' → ∃ r, findLabel c l = some r ∧ dC P eqT dr rnd r = some r') ∧ (cfind c' l = none → findLabel c l = none) := by
  intro c
  induction c with
  | seq x y ihx ihy =>
    intro c' l hd
    simp only [dC] at hd
    split at hd <;> cases hd
    rename_i x' y' h1 h2
    refine ⟨fun r' hr => ?_, fun hr => ?_⟩
    · simp only [cfind] at hr
      split at hr
      · rename_i r hr1
        cases hr
        obtain ⟨q, q1, q2⟩ := (ihx h1).1 _ hr1
        exact ⟨.seq q y, by simp [findLabel, q1], by simp [dC, q2, h2]⟩
      · rename_i hr1
        obtain ⟨q, q1, q2⟩ := (ihy h2).1 _ hr
        exact ⟨q, by simp [findLabel, (ihx h1).2 hr1, q1], q2⟩
    · simp only [cfind] at hr
      split at hr
      · cases hr
      · rename_i hr1
        simp [findLabel, (ihx h1).2 hr1, (ihy h2).2 hr]
  | label l' =>
    intro c' l hd
    cases hd
    refine ⟨fun r' hr => ?_, fun hr => ?_⟩
    · simp only [cfind] at hr
      split at hr <;> cases hr
      rename_i h
      exact ⟨.skip, by simp [findLabel, h], rfl⟩
    · simp only [cfind] at hr
      split at hr <;> cases hr
      rename_i h
      simp [findLabel, h]
  | region i ops dw =>
    intro c' l hd
    cases dw <;> (simp only [dC] at hd; split at hd <;> cases hd <;> exact ⟨fun r' hr => by simp [cfind] at hr, fun _ => rfl⟩)
  | block i c _ => intro c' l hd; simp only [dC] at hd; obtain ⟨q, _, rfl⟩ := map_inv hd; exact ⟨fun r' hr => by simp [cfind] at hr, fun _ => rfl⟩
  | loop c _ => intro c' l hd; simp only [dC] at hd; obtain ⟨q, _, rfl⟩ := map_inv hd; exact ⟨fun r' hr => by simp [cfind] at hr, fun _ => rfl⟩
  | cond x y z _ _ => intro c' l hd; simp only [dC] at hd; split at hd <;> cases hd <;> exact ⟨fun r' hr => by simp [cfind] at hr, fun _ => rfl⟩
  | rangeFunc g ps x y _ _ =>
    intro c' l hd; simp only [dC] at hd
    split at hd
    · cases hd; exact ⟨fun r' hr => by simp [cfind] at hr, fun _ => rfl⟩
    · split at hd <;> cases hd <;> exact ⟨fun r' hr => by simp [cfind] at hr, fun _ => rfl⟩
  | scope c _ =>
    intro c' l hd; simp only [dC] at hd
    split at hd
    · cases hd; exact ⟨fun r' hr => by simp [cfind] at hr, fun _ => rfl⟩
    · split at hd
      · cases hd; exact ⟨fun r' hr => by simp [cfind] at hr, fun _ => rfl⟩
      · split at hd <;> cases hd <;> exact ⟨fun r' hr => by simp [cfind] at hr, fun _ => rfl⟩
  | _ => intro c' l hd; cases hd; exact ⟨fun r' hr => by simp [cfind] at hr, fun _ => rfl⟩

/-- what is asked of the evaluator of regions that draw their order -/
def RdOK (P : Program) (eqT : TypeId → Option (List SK)) (LB : LBody) (rd : RD) (dr : Bool → Array Oper → Option (List Nat × List DSt)) : Prop :=
  ∀ (ro : Option Nat) (call : Call) (φ0 φ : Phi) (h0 h : H) (w0 w : World) (env : Env) (d : D) (a : Act) (id : Nat) (ops : Array Oper) (ds : List Nat) (st : List DSt) (kn : KN) (kx : KX) (out : Value) (Q : Exit → Act → World → Prop),
    CallOK P LB call → dr ro.isSome ops = some (ds, st) → SRel P LB φ0 h0 w0 φ env h d a w → rd call ds st env h d kn kx = some out →
    (∀ φ env h d a w, kn env h d = some out → SRel P LB φ0 h0 w0 φ env h d a w → Q .normal a w) →
    (∀ φ x e env h d a w, kx x env h d = some out → XRel φ x e → SRel P LB φ0 h0 w0 φ env h d a w → Q e a w) →
    (Code.region id ops true).wpIn (fen ro) 0 P Q a w

section
variable {LB : LBody} {φ : Phi} {h : H} {w u : World}
/-- an entry that is said no more of -/
theorem HRel.drop (k : HRel LB φ h w) {n : Nat} {p : Pl} {e : Ent} {low : Nat} (he : look h.es n = some e) (hp : φ n = some p)
    (hu : ∀ c, c ≠ p.b → u.heap[c]? = w.heap[c]?) : HRel LB φ { es := del h.es n, nx := h.nx, low } u := by
  refine ⟨k.fresh, fun i y hy => ?_, fun i j y z q r hy hz hi hj hb => ?_⟩
  · rw [look_del] at hy
    split at hy
    · cases hy
    · rename_i hin
      obtain ⟨q, h1, h2⟩ := k.live i y hy
      exact ⟨q, h1, h2.keep (Phi.le_refl _) (hu q.b fun hc => hin (k.inj i n y e q p hy he h1 hp hc))⟩
  · rw [look_del] at hy hz
    split at hy
    · cases hy
    · split at hz
      · cases hz
      · exact k.inj i j y z q r hy hz hi hj hb
theorem ext_drop {n : Nat} {p : Pl} {e : Ent} {low : Nat} (he : look h.es n = some e) (hrw : e.rw = true) (hp : φ n = some p)
    (hu : ∀ c, c ≠ p.b → u.heap[c]? = w.heap[c]?) (hs : u.heap.size = w.heap.size) (ho : u.os = w.os) (ht : u.tape = w.tape) (hout : u.output = w.output) :
    Ext φ h w φ { es := del h.es n, nx := h.nx, low } u := by
  have old : ∀ i y, look (del h.es n) i = some y → look h.es i = some y := fun i y hy => by
    rw [look_del] at hy
    split at hy
    · cases hy
    · exact hy
  exact ⟨fun _ _ => rfl, Nat.le_refl _, by omega, ho, ht, hout, fun c _ hc => ⟨hu c fun e' => hc ⟨n, e, p, he, hrw, hp, e'.symm⟩, fun ⟨i, y, q, hy, hr, hi, hq⟩ => hc ⟨i, y, q, old i y hy, hr, hi, hq⟩⟩,
    fun c _ hc ⟨i, y, q, hy, hi, hq⟩ => hc ⟨i, y, q, old i y hy, hi, hq⟩⟩
end
end
end Go.Ev

namespace Go.Ev
open Go
noncomputable section

section
variable {F : Fence} {n : Nat} {P : Program} {a : Act} {w : World} {Q : Exit → Act → World → Prop}
theorem wpIn_loopN {c : Code} (I : Nat → Act → World → Prop) {m : Nat} (h₀ : I m a w)
    (round : ∀ m a w, I m a w → c.wpIn F n P (Exit.then (fun a' w' => ∃ m', m' < m ∧ I m' a' w') Q) a w) : (Code.loop c).wpIn F n P Q a w := by
  intro b k cs hro hb hr
  have key : ∀ m a w, I m a w → ∃ e a' w', Q e a' w' ∧ ArrivesIn (Machine.fenced P F) P (lone (b.atR a (.code c :: .inLoop c :: k)) cs w) b k cs e a' w' := by
    intro m
    induction m using Nat.strongRecOn with
    | _ m ih =>
      intro a w hI
      obtain ⟨e, a₁, w₁, hq, harr⟩ := round m a w hI b (.inLoop c :: k) cs hro hb hr
      cases e with
      | normal =>
        obtain ⟨m', hlt, hI₁⟩ := hq
        obtain ⟨e₂, a₂, w₂, hq₂, harr₂⟩ := ih m' hlt a₁ w₁ hI₁
        exact ⟨e₂, a₂, w₂, hq₂, .of_steps (StepsIn.trans harr (.one (fenced_calm hb hr rfl) stepR_inLoop)) harr₂⟩
      | exit id => exact ⟨_, a₁, w₁, hq, .pass (x := .inLoop c) rfl (fun _ _ => .inl (by simp)) harr⟩
      | goto l => exact ⟨_, a₁, w₁, hq, .pass (x := .inLoop c) rfl (fun _ _ => .inl (by simp)) harr⟩
      | ret => exact ⟨_, a₁, w₁, hq, .pass (x := .inLoop c) rfl (fun _ _ => .inl (by simp)) harr⟩
      | panic ch => exact ⟨_, a₁, w₁, hq, .pass (x := .inLoop c) rfl (fun _ _ => .inl (by simp)) harr⟩
      | outgrown => exact ⟨_, a₁, w₁, hq, .pass (x := .inLoop c) rfl (fun _ _ => .inl (by simp)) harr⟩
  obtain ⟨e, a', w', hq, harr⟩ := key m a w h₀
  exact ⟨e, a', w', hq, .of_steps (.one (fenced_calm hb hr rfl) stepR_loop) harr⟩
end

section
variable {P : Program} {LB : LBody} {φ0 φ : Phi} {h0 h : H} {w0 w : World} {out : Value} {env : Env} {a : Act} {d : D} {call : Call} {Q : Exit → Act → World → Prop} {kn : KN} {kx : KX}

theorem endLoop_run {u : World} {L : Nat} {r : Loop} (h : u.heap[L]? = some (.loop r)) (hst : ¬ r.state = LoopState.busy) :
    (Instr.endLoop L).run P u = .ok r.pending { u with heap := u.heap.setIfInBounds L (.loop { r with state := .exhausted }) } := by
  simp [Instr.endLoop, Instr.getLoop, getObj, setObj, Sem.run_bind, Sem.run, h, hst, Result.andThen]
theorem look_del_of {es : List (Nat × Ent)} {n i : Nat} {e : Ent} (h : look (del es n) i = some e) : look es i = some e := by
  rw [look_del] at h
  split at h
  · cases h
  · exact h
theorem evRF_sound (hC : CallOK P LB call) {okf : Nat → Bool} (hok : ∀ f, okf f = true → ∀ args w, (callFunc f args).run P w = .ok (.enter f args) w) {g : Operand} {gv : Value} {ps : Array Tmp} {x y : Code} {rb : RB}
    (s : SRel P LB φ0 h0 w0 φ env h d a w) (hg : VRel φ gv (a.eval g)) (hb : ∀ r : Loop, r.params = ps → r.assign = x → r.body = y → LB rb r)
    (hx : evRF okf call gv rb env h d kn kx = some out)
    (hn : ∀ φ env h d a w, kn env h d = some out → SRel P LB φ0 h0 w0 φ env h d a w → Q .normal a w)
    (hp : ∀ φ x e env h d a w, kx x env h d = some out → XRel φ x e → SRel P LB φ0 h0 w0 φ env h d a w → Q e a w) :
    (Code.rangeFunc g ps x y).wpIn (fen none) 0 P Q a w := by
  refine wpIn_rangeFunc fun fn _ => ?_
  unfold evRF at hx
  split at hx
  · cases hx
  · rename_i hra
    have hr := s.step.rel
    have e1 : ∀ i, look ((h.nx, Ent.dfr) :: h.es) i = if i = h.nx then some .dfr else look h.es i := fun i => look_cons _ _ _
    have k1 := hr.alloc (o := .deferred (some [])) (tot := 0) (low := h.low) (hr.fresh _ (Nat.le_refl _)) (Nat.le_succ _) (Nat.lt_succ_self _) e1 (heap_alloc_new w _)
    have x1 := ext_alloc (φ := φ) (h := h) (w := w) (o := .deferred (some [])) (tot := 0) (low := h.low) (Nat.lt_succ_self _) e1
    have e2 : ∀ i, look ((Nat.succ h.nx, Ent.loop rb env .normal false) :: (h.nx, Ent.dfr) :: h.es) i = if i = Nat.succ h.nx then some (Ent.loop rb env .normal false) else look ((h.nx, Ent.dfr) :: h.es) i := fun i => look_cons _ _ _
    let r0 : Loop := { state := .ready, pending := none, fn, tmps := a.tmps, params := ps, assign := x, body := y, defers := w.heap.size }
    have k2 := k1.alloc (o := .loop r0) (tot := 0) (low := h.low) (n := Nat.succ h.nx) (nx := Nat.succ (Nat.succ h.nx)) (k1.fresh _ (Nat.le_refl _)) (Nat.le_succ _) (Nat.lt_succ_self _) e2
      ⟨r0, heap_alloc_new _ _, hb r0 rfl rfl rfl, s.env.mono ((Phi.le_put (hr.fresh _ (Nat.le_refl _))).trans (Phi.le_put (k1.fresh _ (Nat.le_refl _)))), rfl, fun _ => ⟨rfl, rfl⟩, fun h => by cases h⟩
    have x2 := ext_alloc (φ := φ.put h.nx ⟨w.heap.size, 0, 0⟩) (h := { es := (h.nx, Ent.dfr) :: h.es, nx := Nat.succ h.nx, low := h.low }) (w := w.alloc (.deferred (some []))) (o := .loop r0) (tot := 0) (low := h.low) (Nat.lt_succ_self _) e2
    have st : Step LB φ h w _ _ _ := ⟨k2, x1.trans x2⟩
    have le := st.ext.le hr
    have hy : VRel ((φ.put h.nx ⟨w.heap.size, 0, 0⟩).put (Nat.succ h.nx) ⟨(w.alloc (.deferred (some []))).heap.size, 0, 0⟩) (.func (.yield (Nat.succ h.nx)) #[] #[]) (.func (.yield (w.alloc (.deferred (some []))).heap.size) #[] #[]) :=
      .yield (p := ⟨(w.alloc (.deferred (some []))).heap.size, 0, 0⟩) (Phi.put_same _ _ _)
    obtain ⟨d', c1, c2⟩ := callV_sound (P := P) hC k2 (s.glob.mono le) (hg.mono le) (LRel.cons hy (LRel.nil _)) hx
    have hd' : ∃ f args, okf f = true ∧ invoke d'.target d'.args = callFunc f args := by
      unfold rangeable at hra
      split at hra
      · obtain ⟨e', q1, q2, q3, _⟩ := ofValue_df (P := P) (hg.mono le) (LRel.cons hy (LRel.nil _)) (args' := #[_])
        have := (q1 ((w.alloc (.deferred (some []))).alloc (.loop r0))).symm.trans c1
        cases this
        exact ⟨_, d'.args ++ q2, hra, by rw [q3]; rfl⟩
      · cases hra
    obtain ⟨f, args, hokf, hinv⟩ := hd'
    rw [hinv, hok f hokf] at c2
    refine ⟨(w.alloc (.deferred (some []))).heap.size, [{ target := .collected w.heap.size, args := #[] }], (w.alloc (.deferred (some []))).alloc (.loop r0), d', (w.alloc (.deferred (some []))).alloc (.loop r0), f, args, (w.alloc (.deferred (some []))).alloc (.loop r0), ?_, by simpa [resolve, rangeCall, Act.eval] using c1, fun _ _ => trivial, by rw [hinv]; exact hok f hokf _ _, fun k => (by cases k), ?_⟩
    · rfl
    · show CallsIn Fence.wide 0 P f args _ _
      refine CallsIn.mono c2 fun e w₃ k => ?_
      have common : ∀ {ψ : Phi} {g : H} {u : World}, Step LB ((φ.put h.nx ⟨w.heap.size, 0, 0⟩).put (Nat.succ h.nx) ⟨(w.alloc (.deferred (some []))).heap.size, 0, 0⟩) { es := (Nat.succ h.nx, .loop rb env .normal false) :: (h.nx, .dfr) :: h.es, nx := Nat.succ (Nat.succ h.nx), low := h.low } ((w.alloc (.deferred (some []))).alloc (.loop r0)) ψ g w₃ →
          Step LB ψ g w₃ ψ { es := del g.es (Nat.succ h.nx), nx := g.nx, low := g.low } u → SRel P LB φ0 h0 w0 ψ env { es := del g.es (Nat.succ h.nx), nx := g.nx, low := g.low } (.coll h.nx :: d) { a with defers := [{ target := .collected w.heap.size, args := #[] }] ++ a.defers } u := fun {ψ g u} s1 s2 => by
        have l2 := le.trans (s1.ext.le k2)
        refine ⟨((s.step.trans st).trans s1).trans s2, s.glob.mono l2, s.env.mono l2, ⟨⟨w.heap.size, 0, 0⟩, ?_, rfl⟩, s.dfs.mono l2⟩
        rw [s1.ext.same _ (show h.nx < Nat.succ (Nat.succ h.nx) by omega), Phi.put_other _ _ (by omega), Phi.put_same]
      cases e with
      | outgrown => exact k.elim
      | panicked ch =>
        obtain ⟨v, v', g, ψ, q1, rfl, q2, q3⟩ := k
        exact hp ψ _ _ _ _ _ _ _ q1 ⟨v', rfl, q2⟩ (common q3 ⟨q3.rel.sub (Nat.le_refl _) (fun i e he => look_del_of he), (Ext.refl _ _ _).sub (Nat.le_refl _) (fun i e he => look_del_of he)⟩)
      | returned v' =>
        obtain ⟨v, g, ψ, q1, q2, q3⟩ := k
        split at q1
        · rename_i rb' env' x' done he
          obtain ⟨p, hp1, r, hp2, hp3, hp4, hp5, hp6, hp7⟩ := q3.rel.live _ _ he
          rw [q3.ext.same _ (show Nat.succ h.nx < Nat.succ (Nat.succ h.nx) by omega), Phi.put_same] at hp1
          have hpb := hp1
          cases hp1
          have hp2 : w₃.heap[(w.alloc (.deferred (some []))).heap.size]? = some (.loop r) := hp2
          have hlt : (w.alloc (.deferred (some []))).heap.size < w₃.heap.size := (Array.getElem?_eq_some_iff.1 hp2).1
          have hend : (Instr.endLoop (w.alloc (.deferred (some []))).heap.size).run P w₃ = .ok r.pending { w₃ with heap := w₃.heap.setIfInBounds (w.alloc (.deferred (some []))).heap.size (.loop { r with state := .exhausted }) } := by
            refine endLoop_run hp2 ?_
            cases done with
            | true => rw [hp7 rfl]; simp
            | false => rw [(hp6 rfl).1]; simp
          have hu : ∀ c, c ≠ (w.alloc (.deferred (some []))).heap.size → ({ w₃ with heap := w₃.heap.setIfInBounds (w.alloc (.deferred (some []))).heap.size (.loop { r with state := .exhausted }) } : World).heap[c]? = w₃.heap[c]? := fun c hc => Array.getElem?_setIfInBounds_ne (fun e => hc e.symm)
          have sr := common q3 (u := { w₃ with heap := w₃.heap.setIfInBounds (w.alloc (.deferred (some []))).heap.size (.loop { r with state := .exhausted }) })
            ⟨q3.rel.drop he (by rw [q3.ext.same _ (show Nat.succ h.nx < Nat.succ (Nat.succ h.nx) by omega), Phi.put_same]) hu, ext_drop he rfl (by rw [q3.ext.same _ (show Nat.succ h.nx < Nat.succ (Nat.succ h.nx) by omega), Phi.put_same]) hu (by simp) rfl rfl rfl⟩
          refine ⟨r.pending, _, hend, ?_⟩
          have hp5 := hp5
          generalize hj : ({ w₃ with heap := w₃.heap.setIfInBounds (w.alloc (.deferred (some []))).heap.size (.loop { r with state := .exhausted }) } : World) = w₄ at sr
          generalize r.pending = j at hp5
          cases x' with
          | normal => have : j = none := hp5; subst this; exact hn _ _ _ _ _ _ q1 sr
          | pan v => cases q1
          | ret => have : j = some .ret := hp5; subst this; exact wpIn_ret (hp _ _ _ _ _ _ _ _ q1 rfl sr)
          | exit i => have : j = some (.exit i) := hp5; subst this; exact wpIn_exit (hp _ _ _ _ _ _ _ _ q1 rfl sr)
          | goto i => have : j = some (.goto i) := hp5; subst this; exact wpIn_goto (hp _ _ _ _ _ _ _ _ q1 rfl sr)
        · cases q1
end
end
end Go.Ev

namespace Go.Ev
open Go
noncomputable section

section
variable {P : Program} {φ0 : Phi} {h0 : H} {w0 : World} {out : Value} {call : Call} {eqT : TypeId → Option (List SK)} {N : Nat} {okf : Nat → Bool} {rd : RD} {dr : Bool → Array Oper → Option (List Nat × List DSt)}

theorem cond_sound {φ : Phi} {c c' : Value} {x y : Unit → R} (h1 : VRel φ c c') (hx : cond c x y = some out) : ∃ b, c' = .bool b ∧ (if b then x () else y ()) = some out := by
  unfold cond at hx
  split at hx
  · exact ⟨true, h1.inv_bool, hx⟩
  · exact ⟨false, h1.inv_bool, hx⟩
  · cases hx

theorem evC_sound (hq : ∀ t s, eqT t = some s → EqSpec P t s) (hC : CallOK P (LB P eqT dr) call) (hRd : RdOK P eqT (LB P eqT dr) rd dr) (hok : ∀ f, okf f = true → ∀ args w, (callFunc f args).run P w = .ok (.enter f args) w) :
    ∀ (c : C) (ro : Option Nat) (code : Code) (φ : Phi) (env : Env) (h : H) (d : D) (a : Act) (w : World) (kn : KN) (kx : KX) (Q : Exit → Act → World → Prop),
      dC P eqT dr ro.isSome code = some c → SRel P (LB P eqT dr) φ0 h0 w0 φ env h d a w → evC N okf rd call c env h d kn kx = some out →
      (∀ φ env h d a w, kn env h d = some out → SRel P (LB P eqT dr) φ0 h0 w0 φ env h d a w → Q .normal a w) →
      (∀ φ x e env h d a w, kx x env h d = some out → XRel φ x e → SRel P (LB P eqT dr) φ0 h0 w0 φ env h d a w → Q e a w) →
      code.wpIn (fen ro) 0 P Q a w := by
  intro c
  induction c with
  | bad =>
    intro ro code φ env h d a w kn kx Q hd s hx hn hp
    have hx : none = some out := hx
    cases hx
  | skip =>
    intro ro code φ env h d a w kn kx Q hd s hx hn hp
    cases code <;> (try simp only [dC] at hd) <;> first
      | exact wpIn_skip (hn _ _ _ _ _ _ hx s)
      | (cases hd; done)
      | (obtain ⟨_, _, hh⟩ := map_inv hd; cases hh; done)
      | (split at hd <;> first | (cases hd; done) | (split at hd <;> first | (cases hd; done) | (split at hd <;> cases hd; done)); done)
      | (rename_i b; cases b <;> simp only [dC] at hd <;> (split at hd <;> cases hd); done)
  | label l =>
    intro ro code φ env h d a w kn kx Q hd s hx hn hp
    cases code <;> (try simp only [dC] at hd) <;> first
      | exact wpIn_label (hn _ _ _ _ _ _ hx s)
      | (cases hd; done)
      | (obtain ⟨_, _, hh⟩ := map_inv hd; cases hh; done)
      | (split at hd <;> first | (cases hd; done) | (split at hd <;> first | (cases hd; done) | (split at hd <;> cases hd; done)); done)
      | (rename_i b; cases b <;> simp only [dC] at hd <;> (split at hd <;> cases hd); done)
  | exit i =>
    intro ro code φ env h d a w kn kx Q hd s hx hn hp
    cases code <;> (try simp only [dC] at hd) <;> first
      | (cases hd; exact wpIn_exit (hp _ _ _ _ _ _ _ _ hx rfl s))
      | (cases hd; done)
      | (obtain ⟨_, _, hh⟩ := map_inv hd; cases hh; done)
      | (split at hd <;> first | (cases hd; done) | (split at hd <;> first | (cases hd; done) | (split at hd <;> cases hd; done)); done)
      | (rename_i b; cases b <;> simp only [dC] at hd <;> (split at hd <;> cases hd); done)
  | goto i =>
    intro ro code φ env h d a w kn kx Q hd s hx hn hp
    cases code <;> (try simp only [dC] at hd) <;> first
      | (cases hd; exact wpIn_goto (hp _ _ _ _ _ _ _ _ hx rfl s))
      | (cases hd; done)
      | (obtain ⟨_, _, hh⟩ := map_inv hd; cases hh; done)
      | (split at hd <;> first | (cases hd; done) | (split at hd <;> first | (cases hd; done) | (split at hd <;> cases hd; done)); done)
      | (rename_i b; cases b <;> simp only [dC] at hd <;> (split at hd <;> cases hd); done)
  | ret =>
    intro ro code φ env h d a w kn kx Q hd s hx hn hp
    cases code <;> (try simp only [dC] at hd) <;> first
      | (cases hd; exact wpIn_ret (hp _ _ _ _ _ _ _ _ hx rfl s))
      | (cases hd; done)
      | (obtain ⟨_, _, hh⟩ := map_inv hd; cases hh; done)
      | (split at hd <;> first | (cases hd; done) | (split at hd <;> first | (cases hd; done) | (split at hd <;> cases hd; done)); done)
      | (rename_i b; cases b <;> simp only [dC] at hd <;> (split at hd <;> cases hd); done)
  | reg os =>
    intro ro code φ env h d a w kn kx Q hd s hx hn hp
    cases code <;> (try simp only [dC] at hd) <;> first
      | (cases hd; done)
      | (obtain ⟨_, _, hh⟩ := map_inv hd; cases hh; done)
      | (split at hd <;> first | (cases hd; done) | (split at hd <;> first | (cases hd; done) | (split at hd <;> cases hd; done)); done)
      | skip
    rename_i id ops b
    cases b <;> simp only [dC] at hd
    · split at hd <;> cases hd
      rename_i l hl
      exact wpIn_region (evOps_sound hq hC rfl hn hp _ _ _ _ _ _ _ _ hl s hx)
    · split at hd <;> cases hd
  | dreg ds st =>
    intro ro code φ env h d a w kn kx Q hd s hx hn hp
    cases code <;> (try simp only [dC] at hd) <;> first
      | (cases hd; done)
      | (obtain ⟨_, _, hh⟩ := map_inv hd; cases hh; done)
      | (split at hd <;> first | (cases hd; done) | (split at hd <;> first | (cases hd; done) | (split at hd <;> cases hd; done)); done)
      | skip
    rename_i id ops b
    cases b <;> simp only [dC] at hd
    · split at hd <;> cases hd
    · split at hd <;> cases hd
      rename_i l hl
      exact hRd ro call φ0 φ h0 h w0 w env d a id ops _ _ kn kx out Q hC hl s hx hn hp
  | seq x y ihx ihy =>
    intro ro code φ env h d a w kn kx Q hd s hx hn hp
    cases code <;> (try simp only [dC] at hd) <;> first
      | (cases hd; done)
      | (obtain ⟨_, _, hh⟩ := map_inv hd; cases hh; done)
      | (rename_i b; cases b <;> simp only [dC] at hd <;> (split at hd <;> cases hd); done)
      | skip
    case seq =>
      split at hd <;> cases hd
      rename_i x' y' hx' hy'
      refine wpIn_seq (ihx ro _ φ env h d a w _ kx _ hx' s hx (fun φ env h d a w k1 k2 => ihy ro _ φ env h d a w kn kx Q hy' k2 k1 hn hp) (fun φ x e env h d a w k1 k2 k3 => ?_))
      cases e with
      | normal => cases x <;> (first | exact k2.elim | (cases k2; done) | (obtain ⟨_, hh, _⟩ := k2; cases hh))
      | _ => exact hp _ _ _ _ _ _ _ _ k1 k2 k3
    all_goals (split at hd <;> first | (cases hd; done) | (split at hd <;> first | (cases hd; done) | (split at hd <;> cases hd; done)); done)
  | cond c x y ihx ihy =>
    intro ro code φ env h d a w kn kx Q hd s hx hn hp
    cases code <;> (try simp only [dC] at hd) <;> first
      | (cases hd; done)
      | (obtain ⟨_, _, hh⟩ := map_inv hd; cases hh; done)
      | (rename_i b; cases b <;> simp only [dC] at hd <;> (split at hd <;> cases hd); done)
      | skip
    case cond =>
      split at hd <;> cases hd
      rename_i hc' hx' hy'
      obtain ⟨b, e1, e2⟩ := cond_sound (ev_rel s.glob s.env hc') (show cond (ev env c) (fun _ => evC N okf rd call x env h d kn kx) (fun _ => evC N okf rd call y env h d kn kx) = some out from hx)
      refine wpIn_cond e1 ?_
      cases b with
      | true => exact ihx ro _ φ env h d a w kn kx Q hx' s e2 hn hp
      | false => exact ihy ro _ φ env h d a w kn kx Q hy' s e2 hn hp
    all_goals (split at hd <;> first | (cases hd; done) | (split at hd <;> first | (cases hd; done) | (split at hd <;> cases hd; done)); done)
  | block id c ih =>
    intro ro code φ env h d a w kn kx Q hd s hx hn hp
    cases code <;> (try simp only [dC] at hd) <;> first
      | (cases hd; done)
      | (rename_i b; cases b <;> simp only [dC] at hd <;> (split at hd <;> cases hd); done)
      | skip
    case block =>
      obtain ⟨c', hc', hh⟩ := map_inv hd
      cases hh
      refine wpIn_block (ih ro _ φ env h d a w kn _ _ hc' s hx (fun φ env h d a w k1 k2 => hn _ _ _ _ _ _ k1 k2) (fun φ x e env h d a w k1 k2 k3 => ?_))
      cases x with
      | normal => exact k2.elim
      | exit i =>
        cases k2
        have k1 : (match Nat.beq i id with | true => kn env h d | false => kx (.exit i) env h d) = some out := k1
        simp only [Exit.inBlock]
        split at k1
        · rename_i hb
          rw [if_pos (beq_true.1 hb)]
          exact hn _ _ _ _ _ _ k1 k3
        · rename_i hb
          rw [if_neg (fun e => by rw [beq_true.2 e] at hb; cases hb)]
          exact hp _ _ _ _ _ _ _ _ k1 rfl k3
      | goto l => cases k2; exact hp _ (.goto l) _ _ _ _ _ _ k1 rfl k3
      | ret => cases k2; exact hp _ .ret _ _ _ _ _ _ k1 rfl k3
      | pan v => obtain ⟨v', rfl, hv⟩ := k2; exact hp _ (.pan v) _ _ _ _ _ _ k1 ⟨v', rfl, hv⟩ k3
    all_goals first
      | (obtain ⟨_, _, hh⟩ := map_inv hd; cases hh; done)
      | (split at hd <;> first | (cases hd; done) | (split at hd <;> first | (cases hd; done) | (split at hd <;> cases hd; done)); done)
  | loop c ih =>
    intro ro code φ env h d a w kn kx Q hd s hx hn hp
    cases code <;> (try simp only [dC] at hd) <;> first
      | (cases hd; done)
      | (rename_i b; cases b <;> simp only [dC] at hd <;> (split at hd <;> cases hd); done)
      | skip
    case loop =>
      obtain ⟨c', hc', hh⟩ := map_inv hd
      cases hh
      refine wpIn_loopN (fun m a w => ∃ φ env h d, SRel P (LB P eqT dr) φ0 h0 w0 φ env h d a w ∧ loopD (evC N okf rd call c) kx m env h d = some out) ⟨φ, env, h, d, s, hx⟩ fun m a w ⟨φ, env, h, d, k1, k2⟩ => ?_
      cases m with
      | zero => cases k2
      | succ m =>
        refine ih ro _ φ env h d a w _ kx _ hc' k1 k2 (fun φ env h d a w q1 q2 => ⟨m, Nat.lt_succ_self m, φ, env, h, d, q2, q1⟩) (fun φ x e env h d a w q1 q2 q3 => ?_)
        cases e with
        | normal => cases x <;> (first | exact q2.elim | (cases q2; done) | (obtain ⟨_, hh, _⟩ := q2; cases hh))
        | _ => exact hp _ _ _ _ _ _ _ _ q1 q2 q3
    all_goals first
      | (obtain ⟨_, _, hh⟩ := map_inv hd; cases hh; done)
      | (split at hd <;> first | (cases hd; done) | (split at hd <;> first | (cases hd; done) | (split at hd <;> cases hd; done)); done)
  | rfunc g ps ca cb _ _ =>
    intro ro code φ env h d a w kn kx Q hd s hx hn hp
    cases code <;> (try simp only [dC] at hd) <;> first
      | (cases hd; done)
      | (obtain ⟨_, _, hh⟩ := map_inv hd; cases hh; done)
      | (rename_i b; cases b <;> simp only [dC] at hd <;> (split at hd <;> cases hd); done)
      | skip
    case rangeFunc =>
      split at hd
      · cases hd
      · rename_i hro
        split at hd <;> cases hd
        rename_i hg hca hcb
        cases ro with
        | some _ => cases hro
        | none => exact evRF_sound hC hok s (ev_rel s.glob s.env hg) (fun r e1 e2 e3 => ⟨by rw [e1], by rw [e2]; exact hca, by rw [e3]; exact hcb⟩) hx hn hp
    all_goals (split at hd <;> first | (cases hd; done) | (split at hd <;> first | (cases hd; done) | (split at hd <;> cases hd; done)); done)
  | scope0 c ih =>
    intro ro code φ env h d a w kn kx Q hd s hx hn hp
    cases code <;> (try simp only [dC] at hd) <;> first
      | (cases hd; done)
      | (obtain ⟨_, _, hh⟩ := map_inv hd; cases hh; done)
      | (rename_i b; cases b <;> simp only [dC] at hd <;> (split at hd <;> cases hd); done)
      | skip
    case scope =>
      split at hd
      · cases hd
      · rename_i c' hc'
        split at hd
        · cases hd
          refine wpIn_scope0 (ih ro _ φ env h d a w kn _ _ hc' s hx hn (fun φ x e env h d a w k1 k2 k3 => ?_))
          cases x with
          | normal => exact k2.elim
          | exit i => cases k2; exact hp _ (.exit i) _ _ _ _ _ _ k1 rfl k3
          | goto l => cases k1
          | ret => cases k2; exact hp _ .ret _ _ _ _ _ _ k1 rfl k3
          | pan v => obtain ⟨v', rfl, hv⟩ := k2; exact hp _ (.pan v) _ _ _ _ _ _ k1 ⟨v', rfl, hv⟩ k3
        · split at hd <;> cases hd
    all_goals (split at hd <;> first | (cases hd; done) | (split at hd <;> first | (cases hd; done) | (split at hd <;> cases hd; done)); done)
  | scope c l rest ih ihr =>
    intro ro code φ env h d a w kn kx Q hd s hx hn hp
    cases code <;> (try simp only [dC] at hd) <;> first
      | (cases hd; done)
      | (obtain ⟨_, _, hh⟩ := map_inv hd; cases hh; done)
      | (rename_i b; cases b <;> simp only [dC] at hd <;> (split at hd <;> cases hd); done)
      | skip
    case scope =>
      split at hd
      · cases hd
      · rename_i c' hc'
        split at hd
        · cases hd
        · rename_i l' hl'
          split at hd <;> cases hd
          rename_i hr'
          obtain ⟨r, hf, hr⟩ := (cfind_sound hc').1 _ hr'
          have inner : ∀ (J : Act → World → Prop) (m : Nat), (∀ φ env h d a w, SRel P (LB P eqT dr) φ0 h0 w0 φ env h d a w → scopeD l (evC N okf rd call rest) kn kx m env h d = some out → J a w) →
              ∀ φ x e env h d a w, inScope l x (fun _ => scopeD l (evC N okf rd call rest) kn kx m env h d) (fun _ => kx x env h d) = some out → XRel φ x e → SRel P (LB P eqT dr) φ0 h0 w0 φ env h d a w → scPost l J Q e a w := by
            intro J m hJ φ x e env h d a w k1 k2 k3
            cases x with
            | normal => exact k2.elim
            | exit i => cases k2; exact hp _ (.exit i) _ _ _ _ _ _ k1 rfl k3
            | goto i =>
              cases k2
              have k1 : (match Nat.beq i l with | true => scopeD l (evC N okf rd call rest) kn kx m env h d | false => none) = some out := k1
              split at k1
              · rename_i hb; exact ⟨beq_true.1 hb, hJ _ _ _ _ _ _ k3 k1⟩
              · cases k1
            | ret => cases k2; exact hp _ .ret _ _ _ _ _ _ k1 rfl k3
            | pan v => obtain ⟨v', rfl, hv⟩ := k2; exact hp _ (.pan v) _ _ _ _ _ _ k1 ⟨v', rfl, hv⟩ k3
          refine wpIn_scope hf (fun m a w => ∃ φ env h d, SRel P (LB P eqT dr) φ0 h0 w0 φ env h d a w ∧ scopeD l (evC N okf rd call rest) kn kx m env h d = some out) (fun m a w ⟨φ, env, h, d, k1, k2⟩ => ?_)
            (ih ro _ φ env h d a w kn _ _ hc' s hx hn (inner _ N fun φ env h d a w q1 q2 => ⟨N, φ, env, h, d, q1, q2⟩))
          cases m with
          | zero => cases k2
          | succ m => exact ihr ro _ φ env h d a w kn _ _ hr k1 k2 hn (inner _ m fun φ env h d a w q1 q2 => ⟨m, Nat.lt_succ_self m, φ, env, h, d, q1, q2⟩)
    all_goals (split at hd <;> first | (cases hd; done) | (split at hd <;> first | (cases hd; done) | (split at hd <;> cases hd; done)); done)
end
end
end Go.Ev

namespace Go.Ev
open Go
noncomputable section

/-! ### Functions -/
inductive RV | t (n : Nat) | c (a : Nat) (n : Option Nat)
  deriving Inhabited
structure FD where
  ntmps : Nat
  code : C
  res : List RV
  deriving Inhabited
def retV : List Value → Value
  | [v] => v
  | l => .tuple l.toArray
def evRes (env : Env) (h : H) : List RV → (List Value → R) → R
  | [], f => f []
  | .t n :: r, f => evRes env h r fun l => f (gt env n :: l)
  | .c a n :: r, f => load n (gt env a) h fun v => evRes env h r fun l => f (v :: l)
def leave (dcall : DCall) (res : List RV) (env : Env) (kR kP : KV) : D → Option Value → H → R
  | [], none, h => evRes env h res fun l => kR (retV l) h
  | [], some v, h => kP v h
  | .coll l :: r, p, h => (match look h.es l with
    | some .dfr => leave dcall res env kR kP r p { es := del h.es l, nx := h.nx, low := h.low }
    | _ => none)
  | .fn f args :: r, p, h => dcall f args p h fun p h => leave dcall res env kR kP r p h
def dRes (P : Program) : List ResultVar → Option (List RV)
  | [] => some []
  | .tmp t :: r => (match dRes P r with | some l => some (.t t :: l) | none => none)
  | .cell a t :: r => (match szAgg P t, dRes P r with | some n, some l => some (.c a n :: l) | _, _ => none)

section
variable {P : Program} {LB : LBody} {φ : Phi} {h : H} {w : World} {out : Value} {env : Env} {a : Act}

theorem asAddr_run {x x' : Value} {n : Option Nat} {t : TypeId} {f : Value → R} (hv : VRel φ x x') (hx : load n x h f = some out) {v' : Value} (hl : (Instr.loadAt t x').run P w = .ok v' w) :
    ((do loadVar t (← asAddr x')) : Sem Value).run P w = .ok v' w := by
  have : ∃ ad, x = .pointer (some ad) := by
    unfold load at hx
    cases n with
    | none => simp only [load1, addr] at hx; split at hx; exact ⟨_, rfl⟩; cases hx
    | some n => simp only [loadN, addr] at hx; split at hx; exact ⟨_, rfl⟩; cases hx
  obtain ⟨ad, rfl⟩ := this
  obtain ⟨p, _, _, rfl⟩ := hv.inv_ptr
  simpa [Instr.loadAt, Instr.sureAddr, asAddr] using hl
theorem evRes_sound (hH : HRel LB φ h w) (hE : LRel φ env a.tmps.toList) : ∀ (rs : List ResultVar) (l : List RV) (f : List Value → R), dRes P rs = some l → evRes env h l f = some out →
    ∃ vs vs', f vs = some out ∧ LRel φ vs vs' ∧ (rs.mapM (m := Sem) fun | .tmp t => pure (a.tmps.getD t Go.undef) | .cell x t => do loadVar t (← asAddr (a.tmps.getD x Go.undef))).run P w = .ok vs' w := by
  intro rs
  induction rs with
  | nil => intro l f hd hx; cases hd; exact ⟨[], [], hx, LRel.nil _, rfl⟩
  | cons r rs ih =>
    intro l f hd hx
    cases r with
    | tmp t =>
      simp only [dRes] at hd
      split at hd <;> cases hd
      rename_i l' hl'
      obtain ⟨vs, vs', h1, h2, h3⟩ := ih _ _ hl' hx
      refine ⟨_, a.eval (.tmp t) :: vs', h1, LRel.cons (gt_rel hE t) h2, ?_⟩
      simp only [List.mapM_cons, Sem.run_bind, Sem.run_pure, Result.andThen_ok, h3]
      rfl
    | cell x t =>
      simp only [dRes] at hd
      split at hd <;> cases hd
      rename_i n l' hn hl'
      have hx' : load n (gt env x) h (fun v => evRes env h l' fun l => f (v :: l)) = some out := hx
      obtain ⟨v, v', h4, h5, h6⟩ := load_sound (P := P) hH hn (gt_rel hE x) hx'
      obtain ⟨vs, vs', h1, h2, h3⟩ := ih _ _ hl' h4
      refine ⟨_, v' :: vs', h1, LRel.cons h5 h2, ?_⟩
      have h7 := asAddr_run (gt_rel hE x) hx' h6
      have h7 : ((do loadVar t (← asAddr (a.tmps.getD x Go.undef))) : Sem Value).run P w = .ok v' w := h7
      simp only [List.mapM_cons, Sem.run_bind, Sem.run_pure, Result.andThen_ok] at h7 ⊢
      simp only [h7, h3, Result.andThen_ok]
theorem results_run (hH : HRel LB φ h w) (hE : LRel φ env a.tmps.toList) {fn : Func} {l : List RV} (hd : dRes P fn.results.toList = some l) {k : KV} (hx : evRes env h l (fun l => k (retV l) h) = some out) :
    ∃ v v', k v h = some out ∧ VRel φ v v' ∧ (results fn a.tmps).run P w = .ok v' w := by
  obtain ⟨vs, vs', h1, h2, h3⟩ := evRes_sound (P := P) hH hE _ _ _ hd hx
  refine ⟨retV vs, if h : vs'.toArray.size = 1 then vs'.toArray[0] else .tuple vs'.toArray, h1, ?_, ?_⟩
  · cases vs with
    | nil => have := h2.of_nil; subst this; exact .tuple' (LRel.nil _)
    | cons v r =>
      obtain ⟨v', r', rfl, q1, q2⟩ := h2.uncons
      cases r with
      | nil => have := q2.of_nil; subst this; exact q1
      | cons _ _ =>
        obtain ⟨_, _, rfl, _, _⟩ := q2.uncons
        exact .tuple' h2
  · unfold results
    rw [Array.mapM_eq_mapM_toList]
    simp only [map_eq_pure_bind, Sem.run_bind, Sem.run_pure]
    erw [h3]
    rfl
end

/-! ### Leaving -/
/-- how a function leaves: with a panic, or without -/
def MRel (φ : Phi) : Option Value → FrameMode → Prop
  | none, u => u = .returning
  | some v, u => ∃ v', u = .panicking [{ v := v', recovered := false }] ∧ VRel φ v v'
def DCallOK (P : Program) (LB : LBody) (dcall : DCall) : Prop := ∀ (φ : Phi) (h : H) (w : World) (f : Nat) (args : List Value) (args' : Array Value) (pv : Option Value) (u : FrameMode) (k : Option Value → H → R) (out : Value),
  HRel LB φ h w → GRel P φ → LRel φ args args'.toList → MRel φ pv u → dcall f args pv h k = some out →
  (callFunc f args').run P w = .ok (.enter f args') w ∧ CallsDIn Fence.wide 0 P f args' u w fun
    | .returned _, u', w' => ∃ pv' g ψ, k pv' g = some out ∧ Step LB φ h w ψ g w' ∧ MRel ψ pv' (settle u')
    | _, _, _ => False

section
variable {P : Program} {LB : LBody} {φ0 : Phi} {h0 : H} {w0 : World} {out : Value} {dcall : DCall} {R : Ending → World → Prop} {kR kP : KV}
theorem leave_sound (hD : DCallOK P LB dcall) {fn : Func} {rs : List RV} (hr : dRes P fn.results.toList = some rs) {env : Env} {a : Act}
    (hR : ∀ φ v v' h w, kR v h = some out → VRel φ v v' → Step LB φ0 h0 w0 φ h w → R (.returned v') w)
    (hP : ∀ φ v v' h w, kP v h = some out → VRel φ v v' → Step LB φ0 h0 w0 φ h w → R (.panicked [{ v := v', recovered := false }]) w) :
    ∀ (d : D) (ds : List Deferred) (φ : Phi) (h : H) (w : World) (pv : Option Value) (u : FrameMode), Step LB φ0 h0 w0 φ h w → GRel P φ → LRel φ env a.tmps.toList → DRel φ d ds → MRel φ pv u →
      leave dcall rs env kR kP d pv h = some out → LeavesInM Fence.wide 0 P fn a.tmps R ds u w := by
  intro d
  induction d with
  | nil =>
    intro ds φ h w pv u s hG hE hds hm hx
    cases ds with
    | cons _ _ => exact hds.elim
    | nil =>
      cases pv with
      | none =>
        have hm : u = .returning := hm
        subst hm
        obtain ⟨v, v', h1, h2, h3⟩ := results_run (P := P) (fn := fn) s.rel hE hr hx
        exact ⟨v', h3, hR _ _ _ _ _ h1 h2 s⟩
      | some v =>
        obtain ⟨v', rfl, hv⟩ := hm
        exact hP _ _ _ _ _ hx hv s
  | cons e d ih =>
    intro ds φ h w pv u s hG hE hds hm hx
    have hu : u ≠ .run := by
      cases pv with
      | none => have hm : u = .returning := hm; rw [hm]; simp
      | some v => obtain ⟨v', rfl, _⟩ := hm; simp
    cases ds with
    | nil => exact hds.elim
    | cons e' ds =>
      obtain ⟨he, hds⟩ := hds
      refine ⟨hu, ?_⟩
      cases e with
      | coll l =>
        obtain ⟨p, hp, rfl⟩ := he
        simp only [leave] at hx
        split at hx
        · rename_i hlk
          obtain ⟨q, hq, hob⟩ := s.rel.live _ _ hlk
          rw [hp] at hq; cases hq
          have hob : w.heap[p.b]? = some (.deferred (some [])) := hob
          have hlt : p.b < w.heap.size := (Array.getElem?_eq_some_iff.1 hob).1
          have hw : ∀ c, c ≠ p.b → ({ w with heap := w.heap.setIfInBounds p.b (.deferred none) } : World).heap[c]? = w.heap[c]? := fun c hc => Array.getElem?_setIfInBounds_ne (fun e => hc e.symm)
          refine .inl ⟨p.b, { w with heap := w.heap.setIfInBounds p.b (.deferred none) }, rfl, ?_, ?_⟩
          · simp [Instr.takeDeferred, getObj, setObj, Sem.run_bind, Sem.run, hob, Result.andThen]
          · exact ih ds φ _ _ pv u (s.trans ⟨s.rel.drop hlk hp hw, ext_drop hlk rfl hp hw (by simp) rfl rfl rfl⟩) hG hE hds hm hx
        · cases hx
      | fn f args =>
        obtain ⟨cap, ht, hl⟩ := he
        have hx' : dcall f args pv h (fun p h => leave dcall rs env kR kP d p h) = some out := hx
        obtain ⟨h1, h2⟩ := hD φ h w f args (e'.args ++ cap) pv u _ out s.rel hG (by simpa using hl) hm hx'
        refine .inr ⟨fun k => (by cases k), .func f, cap, f, e'.args ++ cap, ht, by rw [ht]; exact h1, fun _ _ => trivial, h2.mono fun e u' w' k => ?_⟩
        cases e with
        | returned v =>
          obtain ⟨pv', g, ψ, k1, k2, k3⟩ := k
          have le := k2.ext.le s.rel
          exact ih ds ψ g w' pv' _ (s.trans k2) (hG.mono le) (hE.mono le) (hds.mono le) k3 k1
        | panicked ch => exact k.elim
        | outgrown => exact k.elim
end
end
end Go.Ev

namespace Go.Ev
open Go
noncomputable section

/-! ### What memory is still looked at -/
def catO : List (Option (List Nat)) → Option (List Nat)
  | [] => some []
  | none :: _ => none
  | some x :: r => (match catO r with | some l => some (x ++ l) | none => none)
def roots : Nat → Value → Option (List Nat)
  | 0, _ => none
  | d + 1, v => match v with
    | .int .. | .bool _ | .string _ | .nilFunc | .nilIface => some []
    | .pointer none | .map none => some []
    | .map (some a) => some [a]
    | .pointer (some a) => some [a.block]
    | .slice none _ _ => some []
    | .slice (some a) _ _ => some [a.block]
    | .agg c => catO (c.toList.map (roots d))
    | .tuple c => catO (c.toList.map (roots d))
    | .iface _ x => roots d x
    | .func _ x y => catO ((x.toList ++ y.toList).map (roots d))
    | _ => none
def rootsTr : Tr → List Nat → Option (List Nat)
  | .lf, acc => some acc
  | .nd v l r, acc => match roots 3 v with
    | none => none
    | some x => match rootsTr l (x ++ acc) with
      | none => none
      | some acc => rootsTr r acc
def memN (i : Nat) (l : List (Nat × Ent)) : Bool := List.rec false (fun p _ ih => Bool.rec ih true (Nat.beq i p.1)) l
def mark (es : List (Nat × Ent)) (nx : Nat) : Nat → List Nat → List (Nat × Ent) → Option (List (Nat × Ent))
  | 0, _, _ => none
  | _ + 1, [], acc => some acc
  | n + 1, b :: ws, acc => match Nat.blt b nx with
    | true => mark es nx n ws acc
    | false => match memN b acc with
      | true => mark es nx n ws acc
      | false => match look es b with
        | none => mark es nx n ws acc
        | some e => match e with
          | .cells c s ro fl => (match fl.flat with
            | true => mark es nx n ws ((b, .cells c s ro fl) :: acc)
            | false => (match rootsTr c ws with
              | some ws => mark es nx n ws ((b, .cells c s ro fl) :: acc)
              | none => none))
          | _ => none
def older (nx : Nat) (l : List (Nat × Ent)) : List (Nat × Ent) := List.rec [] (fun p _ ih => Bool.rec ih (p :: ih) (Nat.blt p.1 nx)) l
theorem older_cons (nx : Nat) (p : Nat × Ent) (r : List (Nat × Ent)) : older nx (p :: r) = match Nat.blt p.1 nx with | true => p :: older nx r | false => older nx r := by
  show (Bool.rec (older nx r) (p :: older nx r) (Nat.blt p.1 nx) : List (Nat × Ent)) = _
  cases Nat.blt p.1 nx <;> rfl
/-- at a function's return: of the blocks it made, those that its result leads to -/
def gc (nx low : Nat) (v : Value) (g : H) : H := match Nat.ble nx g.low with
  | false => { es := g.es, nx := g.nx, low := Nat.min low g.low }
  | true => match Nat.beq nx g.nx with
    | true => { es := g.es, nx := g.nx, low }
    | false => match roots 5 v with
      | none => { es := g.es, nx := g.nx, low }
      | some ws => match mark g.es nx 200 ws [] with
        | none => { es := g.es, nx := g.nx, low }
        | some kept => { es := kept ++ older nx g.es, nx := g.nx, low }

theorem look_append (xs ys : List (Nat × Ent)) (i : Nat) : look (xs ++ ys) i = match look xs i with | some e => some e | none => look ys i := by
  induction xs with
  | nil => rfl
  | cons p r ih =>
    rw [List.cons_append, look_cons, look_cons]
    split
    · rfl
    · exact ih
theorem mark_sound (es : List (Nat × Ent)) (nx : Nat) : ∀ (n : Nat) (ws : List Nat) (acc r : List (Nat × Ent)), (∀ i e, look acc i = some e → look es i = some e) → mark es nx n ws acc = some r → ∀ i e, look r i = some e → look es i = some e := by
  intro n
  induction n with
  | zero => intro ws acc r _ hx; cases hx
  | succ n ih =>
    intro ws acc r ha hx
    cases ws with
    | nil => cases hx; exact ha
    | cons b ws =>
      have add : ∀ c s ro fl, look es b = some (.cells c s ro fl) → ∀ i e, look ((b, Ent.cells c s ro fl) :: acc) i = some e → look es i = some e := fun c s ro fl hb i e h => by
        rw [look_cons] at h
        split at h
        · rename_i hi; cases h; rw [hi]; exact hb
        · exact ha i e h
      simp only [mark] at hx
      split at hx
      · exact ih _ _ _ ha hx
      · split at hx
        · exact ih _ _ _ ha hx
        · split at hx
          · exact ih _ _ _ ha hx
          · rename_i e he
            split at hx
            · split at hx
              · exact ih _ _ _ (add _ _ _ _ he) hx
              · split at hx
                · exact ih _ _ _ (add _ _ _ _ he) hx
                · cases hx
            · cases hx
theorem older_sound (nx : Nat) : ∀ (es : List (Nat × Ent)) (i : Nat) (e : Ent), look (older nx es) i = some e → look es i = some e := by
  have lt : ∀ (es : List (Nat × Ent)) (i : Nat) (e : Ent), look (older nx es) i = some e → i < nx := fun es => by
    induction es with
    | nil => intro i e h; cases h
    | cons p r ih =>
      intro i e h
      simp only [older_cons] at h
      split at h
      · rename_i hp
        rw [look_cons] at h
        split at h
        · rename_i hi; rw [hi]; exact blt_iff.1 hp
        · exact ih i e h
      · exact ih i e h
  intro es
  induction es with
  | nil => intro i e h; cases h
  | cons p r ih =>
    intro i e h
    have hl := lt (p :: r) i e h
    simp only [older_cons] at h
    rw [look_cons]
    split at h
    · rw [look_cons] at h
      split at h
      · rename_i hi; rw [if_pos hi]; exact h
      · rename_i hi; rw [if_neg hi]; exact ih i e h
    · rename_i hp
      have : i ≠ p.1 := fun e => by rw [e] at hl; rw [blt_iff.2 hl] at hp; cases hp
      rw [if_neg this]; exact ih i e h
theorem gc_sub (nx low : Nat) (v : Value) (g : H) : (gc nx low v g).nx = g.nx ∧ ∀ i e, look (gc nx low v g).es i = some e → look g.es i = some e := by
  unfold gc
  split
  · exact ⟨rfl, fun _ _ h => h⟩
  · split
    · exact ⟨rfl, fun _ _ h => h⟩
    · split
      · exact ⟨rfl, fun _ _ h => h⟩
      · split
        · exact ⟨rfl, fun _ _ h => h⟩
        · rename_i kept hk
          refine ⟨rfl, fun i e h => ?_⟩
          rw [look_append] at h
          split at h
          · rename_i e' he; cases h; exact mark_sound _ _ _ _ _ _ (fun _ _ h => by cases h) hk i e he
          · exact older_sound _ _ _ _ h
theorem Step.gc {LB : LBody} {φ ψ : Phi} {h g : H} {w u : World} (s : Step LB φ h w ψ g u) (nx low : Nat) (v : Value) : Step LB φ h w ψ (gc nx low v g) u := by
  obtain ⟨h1, h2⟩ := gc_sub nx low v g
  generalize Ev.gc nx low v g = g' at h1 h2
  obtain ⟨es, nx', low'⟩ := g'
  have h1 : nx' = g.nx := h1
  exact ⟨s.rel.sub (by omega) h2, s.ext.sub (by omega) h2⟩

/-! ### Functions and rounds -/
def evFn (N : Nat) (okf : Nat → Bool) (rd : RD) (call : Call) (dcall : DCall) (fd : FD) (args : List Value) (h : H) (kR kP : KV) : R :=
  evC N okf rd call fd.code (.start args (Nat.sub fd.ntmps args.length) undef) { es := h.es, nx := h.nx, low := h.nx } []
    (fun env g d => leave dcall fd.res env (fun v g => kR v (gc h.nx h.low v g)) (fun v g => kP v (gc h.nx h.low v g)) d none g)
    (fun x env g d => match x with
      | .ret => leave dcall fd.res env (fun v g => kR v (gc h.nx h.low v g)) (fun v g => kP v (gc h.nx h.low v g)) d none g
      | .pan v => leave dcall fd.res env (fun v g => kR v (gc h.nx h.low v g)) (fun v g => kP v (gc h.nx h.low v g)) d (some v) g
      | _ => none)
def setPs : List Nat → List Value → Env → Env
  | p :: ps, v :: vs, env => setPs ps vs (env.set p v)
  | _, _, env => env
def evRound (N : Nat) (okf : Nat → Bool) (rd : RD) (call : Call) (l : Nat) (args : List Value) (h : H) (kR : KV) : R :=
  match look h.es l with
  | some (.loop rb env _ false) => (match Nat.beq args.length rb.ps.length with
    | false => none
    | true => evC N okf rd call rb.ca (setPs rb.ps args env) { es := del h.es l, nx := h.nx, low := h.low } []
      (fun env1 g d => evC N okf rd call rb.cb env1 g d
        (fun _ g _ => kR (.bool true) { es := (l, .loop rb env .normal false) :: g.es, nx := g.nx, low := g.low })
        (fun x _ g _ => match x with
          | .normal => none
          | .pan _ => none
          | x => kR (.bool false) { es := (l, .loop rb env x true) :: g.es, nx := g.nx, low := g.low }))
      (fun _ _ _ _ => none))
  | _ => none
abbrev ExtC := Nat → List Value → H → KV → KV → R
def runT (N : Nat) (okf : Nat → Bool) (rd : RD) (tab : Nat → Option FD) (ext : ExtC) (dc : Call → DCall) (n : Nat) : Call :=
  Nat.rec (motive := fun _ => Call) (fun _ _ _ _ _ => none) (fun _ ih t args h kR kP => match t with
    | .fn f => (match tab f with
      | some fd => evFn N okf rd ih (dc ih) fd args h kR kP
      | none => ext f args h kR kP)
    | .yield l => evRound N okf rd ih l args h kR) n

def ExtOK (P : Program) (LB : LBody) (ext : ExtC) : Prop := ∀ (φ : Phi) (h : H) (w : World) (f : Nat) (args : List Value) (args' : Array Value) (kR kP : KV) (out : Value),
  HRel LB φ h w → GRel P φ → LRel φ args args'.toList → ext f args h kR kP = some out →
  Leads P ((callFunc f args').run P w) (fun v' u => ∃ v g ψ, kR v g = some out ∧ VRel ψ v v' ∧ Step LB φ h w ψ g u)
    (fun c u => ∃ v v' g ψ, kP v g = some out ∧ c = [{ v := v', recovered := false }] ∧ VRel ψ v v' ∧ Step LB φ h w ψ g u)
/-- what the table says of a function -/
structure FdOK (P : Program) (eqT : TypeId → Option (List SK)) (dr : Bool → Array Oper → Option (List Nat × List DSt)) (f : Nat) (fd : FD) : Prop where
  ex : ∃ fn c, P.funcs[f]? = some fn ∧ fn.body = some c ∧ dC P eqT dr false c = some fd.code ∧ fd.ntmps = fn.ntmps ∧ dRes P fn.results.toList = some fd.res ∧ (fn.name == "runtime.NumGoroutine") = false
theorem callFunc_enter {P : Program} {f : FuncId} {fn : Func} {c : Code} (hf : P.funcs[f]? = some fn) (hb : fn.body = some c) (hn : (fn.name == "runtime.NumGoroutine") = false) (args : Array Value) (w : World) :
    (callFunc f args).run P w = .ok (.enter f args) w := by
  simp only [callFunc, program, Sem.run_bind, Sem.run, Result.andThen_ok, hf, hn, hb, Option.isNone_some, Bool.false_eq_true, if_false]
  rfl
theorem setPs_rel {φ : Phi} : ∀ (ps : List Nat) (vs vs' : List Value) (env : Env) (ts : Array Value), LRel φ vs vs' → LRel φ env ts.toList →
    LRel φ (setPs ps vs env) ((ps.zip vs').foldl (fun (ts : Array Value) (p : Nat × Value) => ts.setIfInBounds p.1 p.2) ts).toList := by
  intro ps
  induction ps with
  | nil => intro vs vs' env ts _ hE; exact hE
  | cons p ps ih =>
    intro vs vs' env ts hv hE
    cases vs with
    | nil => rw [hv.of_nil]; exact hE
    | cons v vs =>
      obtain ⟨v', r, rfl, h1, h2⟩ := hv.uncons
      simp only [setPs, List.zip_cons_cons, List.foldl_cons]
      exact ih vs r _ _ h2 (by rw [Array.toList_setIfInBounds]; exact hE.set p h1)

section
variable {P : Program} {eqT : TypeId → Option (List SK)} {N : Nat} {okf : Nat → Bool} {rd : RD} {dr : Bool → Array Oper → Option (List Nat × List DSt)} {call : Call} {dcall : DCall}
theorem evFn_sound (hq : ∀ t s, eqT t = some s → EqSpec P t s) (hC : CallOK P (LB P eqT dr) call) (hRd : RdOK P eqT (LB P eqT dr) rd dr) (hok : ∀ f, okf f = true → ∀ args w, (callFunc f args).run P w = .ok (.enter f args) w)
    (hD : DCallOK P (LB P eqT dr) dcall) {f : Nat} {fd : FD} (hfd : FdOK P eqT dr f fd) {φ : Phi} {h : H} {w : World} {args : List Value} {args' : Array Value} {kR kP : KV} {out : Value}
    (hH : HRel (LB P eqT dr) φ h w) (hG : GRel P φ) (ha : LRel φ args args'.toList) (hx : evFn N okf rd call dcall fd args h kR kP = some out) :
    Leads P ((callFunc f args').run P w) (fun v' u => ∃ v g ψ, kR v g = some out ∧ VRel ψ v v' ∧ Step (LB P eqT dr) φ h w ψ g u)
      (fun c u => ∃ v v' g ψ, kP v g = some out ∧ c = [{ v := v', recovered := false }] ∧ VRel ψ v v' ∧ Step (LB P eqT dr) φ h w ψ g u) := by
  obtain ⟨fn, c, hf, hb, hc, hnt, hres, hname⟩ := hfd.ex
  rw [callFunc_enter hf hb hname]
  show CallsIn Fence.wide 0 P f args' w _
  refine callsIn_of_wp_marks hf hb trivial ?_
  have hlen : args.length = args'.size := by have := ha.1; simpa using this
  have s0 : SRel P (LB P eqT dr) φ h w φ (.start args (Nat.sub fd.ntmps args.length) undef) { es := h.es, nx := h.nx, low := h.nx } [] { tmps := args' ++ Array.replicate (fn.ntmps - args'.size) Go.undef, defers := [] } w := by
    refine ⟨⟨hH.sub (Nat.le_refl _) fun _ _ h => h, (Ext.refl φ h w).sub (Nat.le_refl _) fun _ _ h => h⟩, hG, ?_, trivial⟩
    have : Nat.sub fd.ntmps args.length = fn.ntmps - args'.size := by rw [hnt, hlen]; rfl
    rw [this]
    simpa [Env.start_l] using ha.append (LRel.replicate (fn.ntmps - args'.size) (VRel.undef φ))
  have hR : ∀ ψ v v' (g : H) (u : World), kR v (gc h.nx h.low v g) = some out → VRel ψ v v' → Step (LB P eqT dr) φ h w ψ g u → ∃ v g ψ, kR v g = some out ∧ VRel ψ v v' ∧ Step (LB P eqT dr) φ h w ψ g u :=
    fun ψ v v' g u k1 k2 k3 => ⟨v, _, ψ, k1, k2, k3.gc _ _ _⟩
  have lv : ∀ {env : Env} {g : H} {d : D} {a : Act} {u : World} {ψ : Phi} {pv : Option Value} {m : FrameMode}, SRel P (LB P eqT dr) φ h w ψ env g d a u → MRel ψ pv m →
      leave dcall fd.res env (fun v g => kR v (gc h.nx h.low v g)) (fun v g => kP v (gc h.nx h.low v g)) d pv g = some out → LeavesInM Fence.wide 0 P fn a.tmps (fun
        | .returned v', u => ∃ v g ψ, kR v g = some out ∧ VRel ψ v v' ∧ Step (LB P eqT dr) φ h w ψ g u
        | .panicked c, u => ∃ v v' g ψ, kP v g = some out ∧ c = [{ v := v', recovered := false }] ∧ VRel ψ v v' ∧ Step (LB P eqT dr) φ h w ψ g u
        | .outgrown, _ => False) a.defers m u := fun {env g d a u ψ pv m} s hm hl =>
    leave_sound hD hres (fun ψ v v' g u k1 k2 k3 => ⟨v, _, ψ, k1, k2, k3.gc _ _ _⟩) (fun ψ v v' g u k1 k2 k3 => ⟨v, v', _, ψ, k1, rfl, k2, k3.gc _ _ _⟩) d a.defers ψ g u pv m s.step s.glob s.env s.dfs hm hl
  refine evC_sound (φ0 := φ) (h0 := h) (w0 := w) (N := N) (okf := okf) (out := out) hq hC hRd hok fd.code none c φ _ _ _ _ w _ _ _ hc s0 hx (fun ψ env g d a u k1 k2 => lv k2 (pv := none) rfl k1) (fun ψ x e env g d a u k1 k2 k3 => ?_)
  cases x with
  | ret => cases k2; exact lv k3 (pv := none) rfl k1
  | pan v => obtain ⟨v', rfl, hv⟩ := k2; exact lv k3 (pv := some v) ⟨v', rfl, hv⟩ k1
  | normal => exact k2.elim
  | exit i => cases k1
  | goto l => cases k1
end
end
end Go.Ev

namespace Go.Ev
open Go
noncomputable section

section
variable {P : Program} {eqT : TypeId → Option (List SK)} {N : Nat} {okf : Nat → Bool} {rd : RD} {dr : Bool → Array Oper → Option (List Nat × List DSt)} {call : Call}

theorem yield_run {w : World} {l : Nat} {r : Loop} {args : Array Value} (h : w.heap[l]? = some (.loop r)) (hs : args.size = r.params.size) :
    (Instr.yield l args).run P w = .ok (.round l r.fn ((r.params.zip args).foldl (fun tmps (t, a) => tmps.setIfInBounds t a) r.tmps) r.assign r.body) w := by
  simp [Instr.yield, Instr.getLoop, getObj, Sem.run_bind, Sem.run, h, hs, Result.andThen]
theorem beginRound_run {w : World} {l : Nat} {r : Loop} (h : w.heap[l]? = some (.loop r)) (hs : r.state = .ready) :
    (Instr.beginRound l).run P w = .ok () { w with heap := w.heap.setIfInBounds l (.loop { r with state := .busy }) } := by
  simp [Instr.beginRound, Instr.getLoop, getObj, setObj, Sem.run_bind, Sem.run, h, hs, Result.andThen]
theorem endRound_run {w : World} {l : Nat} {r : Loop} (h : w.heap[l]? = some (.loop r)) (j : Option Code) :
    (Instr.endRound l j).run P w = .ok (.bool j.isNone) { w with heap := w.heap.setIfInBounds l (.loop { r with state := if j.isNone then .ready else .done, pending := j }) } := by
  simp [Instr.endRound, Instr.getLoop, getObj, setObj, Sem.run_bind, Sem.run, h, Result.andThen]

/-- nothing is said of the block that is changed -/
theorem HRel.aside {LB : LBody} {φ : Phi} {h : H} {w u : World} (k : HRel LB φ h w) {b : Nat} (hb : ¬ Img φ h b) (hu : ∀ c, c ≠ b → u.heap[c]? = w.heap[c]?) : HRel LB φ h u :=
  ⟨k.fresh, fun i e he => let ⟨p, h1, h2⟩ := k.live i e he; ⟨p, h1, h2.keep (Phi.le_refl _) (hu p.b fun e' => hb ⟨i, e, p, he, h1, e'⟩)⟩, k.inj⟩
/-- an entry is put back -/
theorem HRel.back {LB : LBody} {φ : Phi} {h : H} {w : World} (k : HRel LB φ h w) {n : Nat} {p : Pl} {e : Ent} {low : Nat} (hp : φ n = some p) (hb : ¬ Img φ h p.b) (he : ERel LB φ e p w) :
    HRel LB φ { es := (n, e) :: h.es, nx := h.nx, low } w := by
  refine ⟨k.fresh, fun i y hy => ?_, fun i j y z q r hy hz hi hj hbb => ?_⟩
  · rw [look_cons] at hy
    split at hy
    · rename_i hi; have hi : i = n := hi; cases hy; subst hi; exact ⟨p, hp, he⟩
    · exact k.live i y hy
  · rw [look_cons] at hy hz
    split at hy
    · rename_i hin
      have hin : i = n := hin
      subst hin
      split at hz
      · rename_i hjn; exact (show j = i from hjn).symm
      · rw [hp] at hi; cases hi
        exact (hb ⟨j, z, r, hz, hj, hbb.symm⟩).elim
    · split at hz
      · rename_i hjn
        have hjn : j = n := hjn
        subst hjn
        rw [hp] at hj; cases hj
        exact (hb ⟨i, y, q, hy, hi, hbb⟩).elim
      · exact k.inj i j y z q r hy hz hi hj hbb

theorem evRound_sound (hq : ∀ t s, eqT t = some s → EqSpec P t s) (hC : CallOK P (LB P eqT dr) call) (hRd : RdOK P eqT (LB P eqT dr) rd dr) (hok : ∀ f, okf f = true → ∀ args w, (callFunc f args).run P w = .ok (.enter f args) w)
    {φ : Phi} {h : H} {w : World} {l : Nat} {p0 : Pl} {args : List Value} {args' : Array Value} {kR : KV} {pn : List PanicEntry → World → Prop} {out : Value}
    (hH : HRel (LB P eqT dr) φ h w) (hG : GRel P φ) (ha : LRel φ args args'.toList) (hl : φ l = some p0) (hx : evRound N okf rd call l args h kR = some out) :
    Leads P ((Instr.yield p0.b args').run P w) (fun v' u => ∃ v g ψ, kR v g = some out ∧ VRel ψ v v' ∧ Step (LB P eqT dr) φ h w ψ g u) pn := by
  unfold evRound at hx
  split at hx
  · rename_i rb env xp hlk
    obtain ⟨p, hp, r, hob, hlb, hE, hpd, hrd, _⟩ := hH.live _ _ hlk
    rw [hl] at hp; cases hp
    obtain ⟨hps, hca, hcb⟩ := hlb
    split at hx
    · cases hx
    · rename_i hlen
      have hlen : args.length = rb.ps.length := beq_true.1 hlen
      have hsz : args'.size = r.params.size := by
        have h1 := ha.1
        have h2 : r.params.size = rb.ps.length := by rw [← hps]; simp
        simp at h1
        omega
      rw [yield_run hob hsz]
      have hsub : ∀ i e, look (del h.es l) i = some e → look h.es i = some e := fun i e he => look_del_of he
      have h1 : HRel (LB P eqT dr) φ { es := del h.es l, nx := h.nx, low := h.low } w := hH.sub (Nat.le_refl _) hsub
      have nimg : ¬ Img φ { es := del h.es l, nx := h.nx, low := h.low } p0.b := by
        rintro ⟨i, e, q, he, hi, hq⟩
        have he' : look (del h.es l) i = some e := he
        have hil : i ≠ l := fun e' => by rw [look_del, if_pos e'] at he'; cases he'
        exact hil (hH.inj i l e _ q p0 (hsub _ _ he') hlk hi hl hq)
      have hlt : p0.b < w.heap.size := (Array.getElem?_eq_some_iff.1 hob).1
      show RoundIn Fence.wide 0 P p0.b r.fn _ r.assign r.body w _
      refine roundIn_of_wpIn trivial ?_
      have hparams : (r.params.zip args').foldl (fun (tmps : Array Value) (x : Nat × Value) => tmps.setIfInBounds x.1 x.2) r.tmps = (rb.ps.zip args'.toList).foldl (fun (ts : Array Value) (x : Nat × Value) => ts.setIfInBounds x.1 x.2) r.tmps := by
        rw [← Array.foldl_toList, Array.toList_zip, hps]
      have s1 : SRel P (LB P eqT dr) φ { es := del h.es l, nx := h.nx, low := h.low } w φ (setPs rb.ps args env) { es := del h.es l, nx := h.nx, low := h.low } [] { tmps := (r.params.zip args').foldl (fun tmps (t, a) => tmps.setIfInBounds t a) r.tmps, defers := [] } w :=
        ⟨⟨h1, Ext.refl _ _ _⟩, hG, by
          show LRel φ _ ((r.params.zip args').foldl (fun (tmps : Array Value) (x : Nat × Value) => tmps.setIfInBounds x.1 x.2) r.tmps).toList
          rw [hparams]
          exact setPs_rel _ _ _ _ _ ha hE, trivial⟩
      refine evC_sound (out := out) hq hC hRd hok rb.ca (some p0.b) r.assign φ _ _ _ _ w _ _ _ hca s1 hx (fun ψ env1 g d a w1 k1 k2 => ?_) (fun ψ x e env1 g d a w1 k1 _ _ => by cases k1)
      have keep1 := k2.step.ext.keep p0.b hlt (fun ho => nimg ho.img)
      have nimg1 := k2.step.ext.img p0.b hlt nimg
      have hob1 : w1.heap[p0.b]? = some (.loop r) := keep1.1.trans hob
      have hlt1 : p0.b < w1.heap.size := (Array.getElem?_eq_some_iff.1 hob1).1
      obtain ⟨hst, hpn⟩ := hrd rfl
      refine ⟨_, beginRound_run hob1 hst, ?_⟩
      have u2 : ∀ c, c ≠ p0.b → ({ w1 with heap := w1.heap.setIfInBounds p0.b (.loop { r with state := .busy }) } : World).heap[c]? = w1.heap[c]? := fun c hc => Array.getElem?_setIfInBounds_ne (fun e => hc e.symm)
      have at2 : ({ w1 with heap := w1.heap.setIfInBounds p0.b (.loop { r with state := .busy }) } : World).heap[p0.b]? = some (.loop { r with state := .busy }) := by simp [hlt1]
      have sz2 : ({ w1 with heap := w1.heap.setIfInBounds p0.b (.loop { r with state := .busy }) } : World).heap.size = w1.heap.size := by simp
      have os2 : ({ w1 with heap := w1.heap.setIfInBounds p0.b (.loop { r with state := .busy }) } : World).os = w1.os := rfl
      have tp2 : ({ w1 with heap := w1.heap.setIfInBounds p0.b (.loop { r with state := .busy }) } : World).tape = w1.tape := rfl
      have ou2 : ({ w1 with heap := w1.heap.setIfInBounds p0.b (.loop { r with state := .busy }) } : World).output = w1.output := rfl
      generalize ({ w1 with heap := w1.heap.setIfInBounds p0.b (.loop { r with state := .busy }) } : World) = w2 at u2 at2 sz2 os2 tp2 ou2 ⊢
      have s2 : SRel P (LB P eqT dr) ψ g w2 ψ env1 g d a w2 := ⟨⟨k2.step.rel.aside nimg1 u2, Ext.refl _ _ _⟩, k2.glob, k2.env, k2.dfs⟩
      -- how the round ends
      have fin : ∀ (χ : Phi) (g3 : H) (w3 : World) (x : X) (done : Bool) (j : Option Code), Step (LB P eqT dr) ψ g w2 χ g3 w3 → pendOk j x → (j.isNone = !done) →
          kR (.bool (!done)) { es := (l, .loop rb env x done) :: g3.es, nx := g3.nx, low := g3.low } = some out →
          ∃ v w', (Instr.endRound p0.b j).run P w3 = .ok v w' ∧ ∃ v0 g ψ, kR v0 g = some out ∧ VRel ψ v0 v ∧ Step (LB P eqT dr) φ h w ψ g w' := fun χ g3 w3 x done j st hpj hj hk => by
        have hlt2 : p0.b < w2.heap.size := by omega
        have keep2 := st.ext.keep p0.b hlt2 (fun ho => nimg1 ho.img)
        have nimg2 := st.ext.img p0.b hlt2 nimg1
        have hob3 : w3.heap[p0.b]? = some (.loop { r with state := .busy }) := keep2.1.trans at2
        have hlt3 : p0.b < w3.heap.size := (Array.getElem?_eq_some_iff.1 hob3).1
        refine ⟨_, _, endRound_run hob3 j, _, _, χ, hk, ?_, ?_⟩
        · rw [hj]; exact .bool _
        · have u4 : ∀ c, c ≠ p0.b → ({ w3 with heap := w3.heap.setIfInBounds p0.b (.loop { { r with state := .busy } with state := if j.isNone then .ready else .done, pending := j }) } : World).heap[c]? = w3.heap[c]? := fun c hc => Array.getElem?_setIfInBounds_ne (fun e => hc e.symm)
          have at4 : ({ w3 with heap := w3.heap.setIfInBounds p0.b (.loop { { r with state := .busy } with state := if j.isNone then .ready else .done, pending := j }) } : World).heap[p0.b]? = some (.loop { r with state := if j.isNone then .ready else .done, pending := j }) := by simp [hlt3]
          have sz4 : ({ w3 with heap := w3.heap.setIfInBounds p0.b (.loop { { r with state := .busy } with state := if j.isNone then .ready else .done, pending := j }) } : World).heap.size = w3.heap.size := by simp
          have os4 : ({ w3 with heap := w3.heap.setIfInBounds p0.b (.loop { { r with state := .busy } with state := if j.isNone then .ready else .done, pending := j }) } : World).os = w3.os := rfl
          have tp4 : ({ w3 with heap := w3.heap.setIfInBounds p0.b (.loop { { r with state := .busy } with state := if j.isNone then .ready else .done, pending := j }) } : World).tape = w3.tape := rfl
          have ou4 : ({ w3 with heap := w3.heap.setIfInBounds p0.b (.loop { { r with state := .busy } with state := if j.isNone then .ready else .done, pending := j }) } : World).output = w3.output := rfl
          generalize ({ w3 with heap := w3.heap.setIfInBounds p0.b (.loop { { r with state := .busy } with state := if j.isNone then .ready else .done, pending := j }) } : World) = w4 at u4 at4 sz4 os4 tp4 ou4 ⊢
          have e1 := k2.step.ext
          have e2 := st.ext
          have hχ : χ l = some p0 := by
            have hlf : l < h.nx := Nat.lt_of_not_le fun hle => by rw [hH.fresh l hle] at hl; cases hl
            have a1 : ψ l = φ l := e1.same l hlf
            have n1 : h.nx ≤ g.nx := e1.nx
            rw [e2.same l (by omega), a1, hl]
          have n1 : h.nx ≤ g.nx := e1.nx
          have z1 : w.heap.size ≤ w1.heap.size := e1.size
          have z2 : w2.heap.size ≤ w3.heap.size := e2.size
          refine ⟨(st.rel.aside nimg2 u4).back hχ nimg2 ⟨_, at4, ⟨hps, hca, hcb⟩, hE.mono ((e1.le h1).trans (e2.le (k2.step.rel.aside nimg1 u2))), hpj, fun hd => ?_, fun hd => ?_⟩, ⟨fun i hi => ?_, Nat.le_trans n1 e2.nx, ?_, ?_, ?_, ?_, fun b hb hno => ?_, fun b hb hno => ?_⟩⟩
          · subst hd
            have : j.isNone = true := by simpa using hj
            exact ⟨by simp [this], by simpa using this⟩
          · subst hd
            have : j.isNone = false := by simpa using hj
            simp [this]
          · exact (e2.same i (Nat.lt_of_lt_of_le hi n1)).trans (e1.same i hi)
          · omega
          · rw [os4, e2.os, os2, e1.os]
          · rw [tp4, e2.tape, tp2, e1.tape]
          · rw [ou4, e2.output, ou2, e1.output]
          · have hbp : b ≠ p0.b := fun e => hno ⟨l, _, p0, hlk, rfl, hl, e.symm⟩
            obtain ⟨q1, q2⟩ := e1.keep b hb fun ⟨i, e, q, a1, a2, a3, a4⟩ => hno ⟨i, e, q, hsub _ _ a1, a2, a3, a4⟩
            obtain ⟨q3, q4⟩ := e2.keep b (by omega) q2
            refine ⟨by rw [u4 b hbp, q3, u2 b hbp, q1], ?_⟩
            rintro ⟨i, e, q, a1, a2, a3, a4⟩
            rw [look_cons] at a1
            split at a1
            · rename_i hi; have hi : i = l := hi; subst hi; rw [hχ] at a3; cases a3; exact hbp a4.symm
            · exact q4 ⟨i, e, q, a1, a2, a3, a4⟩
          · have hbp : b ≠ p0.b := fun e => hno ⟨l, _, p0, hlk, hl, e.symm⟩
            have q2 := e1.img b hb fun ⟨i, e, q, a1, a3, a4⟩ => hno ⟨i, e, q, hsub _ _ a1, a3, a4⟩
            have q4 := e2.img b (by omega) q2
            rintro ⟨i, e, q, a1, a3, a4⟩
            rw [look_cons] at a1
            split at a1
            · rename_i hi; have hi : i = l := hi; subst hi; rw [hχ] at a3; cases a3; exact hbp a4.symm
            · exact q4 ⟨i, e, q, a1, a3, a4⟩
      refine evC_sound (out := out) hq hC hRd hok rb.cb (some p0.b) r.body ψ _ _ _ _ w2 _ _ _ hcb s2 k1 (fun χ env3 g3 d3 a3 w3 q1 q2 => ?_) (fun χ x e env3 g3 d3 a3 w3 q1 q2 q3 => ?_)
      · exact fin χ g3 w3 .normal false none q2.step rfl rfl q1
      · cases x with
        | normal => exact q2.elim
        | pan v => cases q1
        | ret => cases q2; exact fin χ g3 w3 .ret true (some .ret) q3.step rfl rfl q1
        | exit i => cases q2; exact fin χ g3 w3 (.exit i) true (some (.exit i)) q3.step rfl rfl q1
        | goto i => cases q2; exact fin χ g3 w3 (.goto i) true (some (.goto i)) q3.step rfl rfl q1
  · cases hx

theorem runT_sound (hq : ∀ t s, eqT t = some s → EqSpec P t s) (hRd : RdOK P eqT (LB P eqT dr) rd dr) (hok : ∀ f, okf f = true → ∀ args w, (callFunc f args).run P w = .ok (.enter f args) w)
    {tab : Nat → Option FD} {ext : ExtC} {dc : Call → DCall} (htab : ∀ f fd, tab f = some fd → FdOK P eqT dr f fd) (hext : ExtOK P (LB P eqT dr) ext) (hdc : ∀ call, CallOK P (LB P eqT dr) call → DCallOK P (LB P eqT dr) (dc call)) :
    ∀ n, CallOK P (LB P eqT dr) (runT N okf rd tab ext dc n) := by
  intro n
  induction n with
  | zero => intro φ h w t args args' kR kP out s _ _ _ _ hx; cases hx
  | succ n ih =>
    intro φ h w t args args' kR kP out s hH hG ha hs hx
    cases t with
    | fn f =>
      have hs : s = callFunc f args' := hs
      subst hs
      have hx : (match tab f with
        | some fd => evFn N okf rd (runT N okf rd tab ext dc n) (dc (runT N okf rd tab ext dc n)) fd args h kR kP
        | none => ext f args h kR kP) = some out := hx
      split at hx
      · rename_i fd hfd
        exact evFn_sound hq ih hRd hok (hdc _ ih) (htab f fd hfd) hH hG ha hx
      · exact hext φ h w f args args' kR kP out hH hG ha hx
    | yield l =>
      obtain ⟨p, hp, rfl⟩ := hs
      exact evRound_sound hq ih hRd hok hH hG ha hp hx
end
end
end Go.Ev
