/- Part of a shadow evaluator for the program's form, proved sound over the kit's rules: a means for closed calls. No condition. -/
import Derived.Test.YtmihmfnheeciaaaGreatDoorEvB
set_option linter.unusedVariables false
set_option linter.unusedSimpArgs false
namespace Go.Ev
open Go
noncomputable section

section
variable {P : Program} {LB : LBody} {φ : Phi} {h : H} {w : World} {f : Value → R} {out : Value}

theorem run_append_stay {t u ty e : TypeId} {du : TypeDesc} {i : TypeInfo} {base : Option Addr} {n m cap : Nat} {y' : Value} {new : List Value} (ht : P.underlying t = some (.slice e)) (hu : P.underlying u = some du) (hdu : (∃ e', du = .slice e') ∨ du = .string) (hi : P.info? e = some i)
    (hm : (Builtin.lenOf y').run P w = .ok m w) (hle : n + m ≤ cap) (hf : (Builtin.firstCells i.size m y').run P w = .ok new.toArray w) :
    (Builtin.append_ #[t, u] ty #[.slice base n cap, y']).run P w = ((match base with | some a => storeCells (a.add (n * i.size)) new | none => pure ()).run P w).andThen fun _ w' => .ok (.slice base (n + m) cap) w' := by
  have hs : (sizeOf e).run P w = .ok i.size w := run_sizeOf hi w
  rcases hdu with ⟨e', rfl⟩ | rfl <;> cases base <;> simp [Builtin.append_, run_underlying ht, run_underlying hu, hs, hm, hle, hf]
theorem run_append_move {t u ty e : TypeId} {du : TypeDesc} {i : TypeInfo} {z : Value} {base : Option Addr} {n m cap : Nat} {y' : Value} {old new : List Value} (ht : P.underlying t = some (.slice e)) (hu : P.underlying u = some du) (hdu : (∃ e', du = .slice e') ∨ du = .string) (hi : P.info? e = some i) (hz : i.zero = some z) (hb : i.bytes ≠ 0)
    (hm : (Builtin.lenOf y').run P w = .ok m w) (hlt : cap < n + m) (hfit : Builtin.nextslicecap (n + m) cap * i.bytes ≤ 281474976710656)
    (hfo : (Builtin.firstCells i.size n (.slice base n cap)).run P w.drew = .ok old.toArray w.drew) (hf : (Builtin.firstCells i.size m y').run P w.drew = .ok new.toArray w.drew) :
    (Builtin.append_ #[t, u] ty #[.slice base n cap, y']).run P w = .ok (.slice (some ⟨w.heap.size, 0, none⟩) (n + m) (grownCap w (n + m) cap e))
        (w.drew.alloc (.cells (old.toArray ++ new.toArray ++ Builtin.zeroCells z.cells (grownCap w (n + m) cap e - (n + m))) e)) := by
  have hn : ¬ (n + m ≤ cap) := by omega
  have h48' : ¬ (281474976710656 < Builtin.nextslicecap (n + m) cap * i.bytes) := by omega
  rcases hdu with ⟨e', rfl⟩ | rfl <;> simp [Builtin.append_, run_underlying ht, run_underlying hu, sizeOf, hm, hn, typeInfo, zeroValue, hi, hz, hb, h48', Question.forced, hf, hfo, newRow, grownCap] <;>
    (congr 2; apply Array.ext'; simp [List.append_assoc])
theorem zeroCells_size (z : Array Value) (n : Nat) : (Builtin.zeroCells z n).size = n * z.size := by simp [Builtin.zeroCells]
theorem grownCap_ge (w : World) (need old : Nat) (e : TypeId) : need ≤ grownCap w need old e := by simp [grownCap, Question.cut]
theorem len_of {y y' : Value} {m size : Nat} (hv : VRel φ y y') (hk : (∃ a c, y = .slice a m c) ∨ (∃ s, y = .string s ∧ s.size = m ∧ size = 1)) (u : World) : (Builtin.lenOf y').run P u = .ok m u := by
  refine lenOf_run hv ?_
  rcases hk with h | ⟨s, h1, h2, _⟩
  · exact .inl h
  · exact .inr ⟨s, h1, h2⟩
/-- the row that an append has made anew -/
theorem appendNew_grown (hH : HRel LB φ h w) {i : TypeInfo} {e : TypeId} {z : Value} (hsz : z.cells.size = i.size) {old new old' new' : List Value} {n m cap : Nat} (h1 : LRel φ old old') (h2 : LRel φ new new')
    (l1 : old.length = n * i.size) (l2 : new.length = m * i.size) {es : List (Nat × Ent)} {low : Nat} (hes : ∀ j x, look es j = some x → look h.es j = some x) {k : KV}
    {ty : Option TypeId} (hty : ∀ x, ty = some x → e = x) {fz : Nat} (hx : appendNew ty fz i.size old new (n + m) { es, nx := h.nx, low } k = some out) :
    ∃ v g ψ, k v g = some out ∧ VRel ψ v (.slice (some ⟨w.heap.size, 0, none⟩) (n + m) (grownCap w (n + m) cap e)) ∧
      Step LB φ h w ψ g (w.drew.alloc (.cells (old'.toArray ++ new'.toArray ++ Builtin.zeroCells z.cells (grownCap w (n + m) cap e - (n + m))) e)) := by
  unfold appendNew at hx
  have hH' : HRel LB φ { es, nx := h.nx, low } w.drew := hH.drew.sub (Nat.le_refl _) hes
  have hge := grownCap_ge w (n + m) cap e
  have hlen : (old ++ new).length = (n + m) * i.size := by rw [List.length_append, l1, l2, Nat.add_mul]
  have hl' : (old' ++ new').length = (n + m) * i.size := by rw [← hlen]; simp [h1.1, h2.1]
  have hcs : (old'.toArray ++ new'.toArray ++ Builtin.zeroCells z.cells (grownCap w (n + m) cap e - (n + m))).size = grownCap w (n + m) cap e * i.size := by
    rw [Array.size_append, zeroCells_size, hsz]
    have : (old'.toArray ++ new'.toArray).size = (n + m) * i.size := by rw [← hl']; simp
    rw [this, ← Nat.add_mul]
    congr 1; omega
  obtain ⟨g, a, _, b, _⟩ := newCells_sound hH' (n := 0) (cs := old'.toArray ++ new'.toArray ++ Builtin.zeroCells z.cells (grownCap w (n + m) cap e - (n + m))) e (0, 0) (.inl (Nat.le_refl _))
    (by
      rw [hlen, ← hl']
      have : (old'.toArray ++ new'.toArray ++ Builtin.zeroCells z.cells (grownCap w (n + m) cap e - (n + m))).toList = (old' ++ new') ++ (Builtin.zeroCells z.cells (grownCap w (n + m) cap e - (n + m))).toList := by simp
      rw [this, List.take_left]
      exact h1.append h2) (by rw [hcs, hlen]; exact Nat.mul_le_mul_right _ hge) (fun x hx => ⟨hty x hx, rfl⟩) (fun h => by cases h) hx
  refine ⟨_, g, _, a, ?_, ⟨b.rel, ?_⟩⟩
  · have := VRel.sl (b := h.nx) (off := 0) (n := n + m) (c := Nat.succ (Nat.mul 2 i.size)) (cap := grownCap w (n + m) cap e) (Phi.put_same φ h.nx ⟨w.drew.heap.size, 0, (old'.toArray ++ new'.toArray ++ Builtin.zeroCells z.cells (grownCap w (n + m) cap e - (n + m))).size⟩)
      (.inr ⟨by show (2 * i.size + 1) % 2 = 1; omega, by
        show 0 + 0 + grownCap w (n + m) cap e * ((2 * i.size + 1) / 2) ≤ (old'.toArray ++ new'.toArray ++ Builtin.zeroCells z.cells (grownCap w (n + m) cap e - (n + m))).size
        rw [hcs, show (2 * i.size + 1) / 2 = i.size by omega]; omega⟩) hge
    exact this
  · have e1 : Ext φ { es, nx := h.nx, low } w.drew _ g _ := b.ext
    exact Ext.of_drew ⟨e1.same, e1.nx, e1.size, e1.os, e1.tape, e1.output,
      fun c hc ho => e1.keep c hc fun ⟨j, x, p, a1, a2, a3⟩ => ho ⟨j, x, p, hes _ _ a1, a2, a3⟩,
      fun c hc ho => e1.img c hc fun ⟨j, x, p, a1, a3⟩ => ho ⟨j, x, p, hes _ _ a1, a3⟩⟩
theorem append_sound (hH : HRel LB φ h w) {t u ty e : TypeId} {du : TypeDesc} {i : TypeInfo} {zs : List Value} {x x' y y' : Value} (ht : P.underlying t = some (.slice e)) (hu : P.underlying u = some du) (hdu : (∃ e', du = .slice e') ∨ du = .string)
    (hz : zeroL P e = some zs) (hi : P.info? e = some i) (hs : i.size ≠ 0) (hb : i.bytes ≠ 0) (hv : VRel φ x x') (hy : VRel φ y y') {k : KV} (hx : append e i.size i.bytes x y h k = some out) :
    ∃ v v' g ψ u', k v g = some out ∧ VRel ψ v v' ∧ Step LB φ h w ψ g u' ∧ (Builtin.append_ #[t, u] ty #[x', y']).run P w = .ok v' u' := by
  obtain ⟨i', z, hi', hzz, rfl, hpl, hsz⟩ := zeroL_inv hz
  rw [hi] at hi'; cases hi'
  unfold append sliceParts at hx
  cases x <;> dsimp only at hx <;> try (cases hx; done)
  rename_i a n c
  obtain ⟨m, new, new', hg, hk, hn1, hn2, hn3⟩ := cellsIn_sound (P := P) hH hy (fun n => Nat.le_refl n) hx
  split at hg
  · cases hg
  · rename_i hroom
    have hroom : 4 * ((n + m + 1) * (i.bytes + 1)) ≤ 140737488355328 := ble_iff.1 hroom
    have hbytes : (n + m) * i.bytes ≤ 140737488355328 := by
      have : (n + m) * i.bytes ≤ (n + m + 1) * (i.bytes + 1) := Nat.mul_le_mul (by omega) (by omega)
      omega
    have hlenw := len_of (P := P) hy hk w
    have hsame : ∀ b, Img φ h b → w.heap[b]? = w.heap[b]? := fun _ _ => rfl
    have hdrew : ∀ b, Img φ h b → w.drew.heap[b]? = w.heap[b]? := fun _ _ => rfl
    cases a with
    | none =>
      dsimp only at hg
      cases hv
      split at hg
      · rename_i h0
        have h0 : m = 0 := beq_true.1 h0
        subst h0
        refine ⟨_, .slice none 0 0, _, φ, w, hg, .nilS, ⟨hH, Ext.refl _ _ _⟩, ?_⟩
        rw [run_append_stay ht hu hdu hi hlenw (Nat.le_refl _) (hn3 w hsame)]
        simp
      · rename_i h0
        have h0 : ¬ m = 0 := fun e => by rw [show Nat.beq m 0 = true from beq_true.2 e] at h0; cases h0
        have hg' : appendNew (some e) 0 i.size [] new (0 + m) { es := h.es, nx := h.nx, low := h.low } k = some out := by rw [Nat.zero_add]; exact hg
        obtain ⟨v, g, ψ, r1, r2, r3⟩ := appendNew_grown (cap := 0) (e := e) (n := 0) (old' := []) (z := z) hH hsz (LRel.nil φ) hn1 (by simp) hn2 (fun _ _ h => h) (fun _ h => by cases h; rfl) hg'
        refine ⟨v, _, g, ψ, _, r1, r2, r3, ?_⟩
        exact run_append_move ht hu hdu hi hzz hb hlenw (by omega) (growslice_fits (by omega) hbytes) (by simp [Builtin.firstCells]) (hn3 w.drew hdrew)
    | some a =>
      obtain ⟨b, off, sp⟩ := a
      dsimp only at hg
      cases sp with
      | some s => cases hg
      | none =>
        dsimp only at hg
        obtain ⟨p, off', cap, hp, rfl, hc, hn, ho⟩ := slice_known hv
        -- nothing is appended
        have stay0 : m = 0 → k (.slice (some ⟨b, off, none⟩) n c) h = some out → ∃ v v' g ψ u', k v g = some out ∧ VRel ψ v v' ∧ Step LB φ h w ψ g u' ∧ (Builtin.append_ #[t, u] ty #[.slice (some ⟨p.b, off', none⟩) n cap, y']).run P w = .ok v' u' := fun h0 hkx => by
          subst h0
          have hnil : new' = [] := List.length_eq_zero_iff.1 (by have := hn1.1; rw [hn2] at this; simpa using this.symm)
          refine ⟨_, .slice (some ⟨p.b, off', none⟩) n cap, h, φ, w, hkx, hv, ⟨hH, Ext.refl _ _ _⟩, ?_⟩
          rw [run_append_stay ht hu hdu hi hlenw (by omega) (hn3 w hsame), hnil]
          simp [storeCells]
        -- a new row
        have moved : cap < n + m → ∀ (ety : Option TypeId) (efz : Nat) (_ : ∀ x, ety = some x → e = x) (old old' : List Value) (es : List (Nat × Ent)) (low : Nat), LRel φ old old' → old.length = n * i.size → (∀ j x, look es j = some x → look h.es j = some x) →
            (Builtin.firstCells i.size n (.slice (some ⟨p.b, off', none⟩) n cap)).run P w.drew = .ok old'.toArray w.drew → appendNew ety efz i.size old new (n + m) { es, nx := h.nx, low } k = some out →
            ∃ v v' g ψ u', k v g = some out ∧ VRel ψ v v' ∧ Step LB φ h w ψ g u' ∧ (Builtin.append_ #[t, u] ty #[.slice (some ⟨p.b, off', none⟩) n cap, y']).run P w = .ok v' u' := fun hlt ety efz hety old old' es low q1 q2 q3 q4 q5 => by
          obtain ⟨v, g, ψ, r1, r2, r3⟩ := appendNew_grown (cap := cap) (e := e) (z := z) hH hsz q1 hn1 q2 hn2 q3 hety q5
          exact ⟨v, _, g, ψ, _, r1, r2, r3, run_append_move ht hu hdu hi hzz hb hlenw hlt (growslice_fits hlt hbytes) q4 (hn3 w.drew hdrew)⟩
        split at hg
        · rename_i hev
          have hev : c % 2 = 0 := beq_true.1 hev
          have hcap : cap = c / 2 := by rcases hc with ⟨_, h⟩ | ⟨h, _⟩ <;> omega
          split at hg
          · rename_i hle
            have hle : n + m ≤ c / 2 := ble_iff.1 hle
            split at hg
            · rename_i h0
              exact stay0 (beq_true.1 h0) hg
            · rename_i h0
              have h0 : ¬ m = 0 := fun e => by rw [show Nat.beq m 0 = true from beq_true.2 e] at h0; cases h0
              have hoff : off' = off + p.s := by
                rcases ho with h | ⟨h, hz | hz⟩
                · exact h
                · omega
                · omega
              subst hoff
              obtain ⟨g, u', r1, r2, r3⟩ := putCells_sound (P := P) hH hp hn1 hg
              refine ⟨_, .slice (some ⟨p.b, off + p.s, none⟩) (n + m) cap, g, φ, u', r1, .sl hp hc (show n + m ≤ cap by omega), r2, ?_⟩
              rw [run_append_stay ht hu hdu hi hlenw (by omega) (hn3 w hsame)]
              simp only [add_none]
              rw [show off + p.s + n * i.size = Nat.add off (Nat.mul n i.size) + p.s by show _ = off + n * i.size + p.s; omega, r3]
              rfl
          · rename_i hle
            have hle : ¬ n + m ≤ c / 2 := fun e => by rw [show Nat.ble (Nat.add n m) (Nat.div c 2) = true from ble_iff.2 e] at hle; cases hle
            obtain ⟨m2, old, old', hg2, hk2, q1, q2, q3⟩ := cellsIn_sound (P := P) hH hv (fun n => Nat.le_refl n) hg
            have hm2 : m2 = n := by rcases hk2 with ⟨_, _, h⟩ | ⟨_, h, _⟩ <;> cases h; rfl
            subst hm2
            exact moved (by omega) (some e) 0 (fun _ h => by cases h; rfl) old old' h.es h.low q1 q2 (fun _ _ h => h) (q3 w.drew hdrew) hg2
        · rename_i hev
          have hodd : c % 2 = 1 := by
            have : ¬ c % 2 = 0 := fun e => by rw [show Nat.beq (Nat.mod c 2) 0 = true from beq_true.2 e] at hev; cases hev
            omega
          have hroomc : off' + cap * (c / 2) ≤ p.tot := by rcases hc with ⟨h, _⟩ | ⟨_, h⟩; omega; exact h
          split at hg
          · rename_i h0
            exact stay0 (beq_true.1 h0) hg
          · rename_i h0
            have h0 : ¬ m = 0 := fun e => by rw [show Nat.beq m 0 = true from beq_true.2 e] at h0; cases h0
            obtain ⟨m2, old, old', hg2, hk2, q1, q2, q3⟩ := cellsIn_sound (P := P) hH hv (fun n => Nat.le_refl n) hg
            have hm2 : m2 = n := by rcases hk2 with ⟨_, _, h⟩ | ⟨_, h, _⟩ <;> cases h; rfl
            subst hm2
            split at hg2
            · cases hg2
            · rename_i hsize
              have hsize : c / 2 = i.size := beq_true.1 hsize
              split at hg2
              · rename_i ct csz cfl hl
                split at hg2 <;> try (cases hg2; done)
                rename_i hff
                have hfz : cfl.fz = 0 ∨ (m2 * i.size ≠ 0 ∧ cfl.fz ≤ off + m2 * i.size) := by
                  unfold fzFit at hff
                  split at hff
                  · rename_i h; exact .inl (beq_true.1 h)
                  · split at hff
                    · cases hff
                    · rename_i h
                      exact .inr ⟨fun e => (by rw [show Nat.beq (Nat.mul m2 i.size) 0 = true from beq_true.2 e] at h; cases h), ble_iff.1 hff⟩
                have hkt : ∀ x, tyKept e cfl = some x → cfl.ty = some x ∧ e = x := fun x hx => by
                  unfold tyKept at hx
                  split at hx
                  · cases hx
                  · rename_i t ht'
                    split at hx
                    · rename_i hte; cases hx; rw [ht', beq_true.1 hte]; exact ⟨rfl, rfl⟩
                    · cases hx
                have hdel : ∀ j x, look (del h.es b) j = some x → look h.es j = some x ∧ j ≠ b := fun j x hj => by
                  rw [look_del] at hj
                  split at hj
                  · cases hj
                  · rename_i hne; exact ⟨hj, hne⟩
                by_cases hfit : m2 + m ≤ cap
                · -- in its place
                  obtain ⟨q, hq, cs, ty', fr, h4, h5, h6, h7, h8⟩ := hH.live b _ hl
                  rw [hp] at hq; cases hq
                  obtain ⟨h7, h7t⟩ := h7
                  have h7 := h7 rfl
                  have hoff : cfl.fz = 0 ∨ off' = off + p.s := by
                    rcases hfz with h | ⟨h, _⟩
                    · exact .inl h
                    · rcases ho with ho | ⟨ho, _⟩
                      · exact .inr ho
                      · subst ho; simp at h
                  have hbehind : ∀ j, off' + m2 * i.size ≤ j → cfl.fz = 0 ∨ p.s + cfl.fz ≤ j := fun j hj => by
                    rcases hfz with h | ⟨_, h⟩
                    · exact .inl h
                    · rcases hoff with h' | h'
                      · exact .inl h'
                      · exact .inr (by omega)
                  have hlt : p.b < w.heap.size := (Array.getElem?_eq_some_iff.1 h4).1
                  have hnl : new'.length = m * i.size := by rw [← hn1.1, hn2]
                  have hol : old'.length = m2 * i.size := by rw [← q1.1, q2]
                  have htot : off' + (m2 + m) * i.size ≤ cs.size := by
                    rw [h6]
                    have : (m2 + m) * i.size ≤ cap * (c / 2) := by rw [hsize]; exact Nat.mul_le_mul_right _ hfit
                    omega
                  have htot' : off' + m2 * i.size + m * i.size ≤ cs.size := by rw [Nat.add_mul] at htot; omega
                  unfold appendNew newCells at hg2
                  split at hg2
                  · rename_i hat
                    have one : ∀ v ∈ new', v.oneCell' = true := fun v hv => by
                      obtain ⟨j, hj⟩ := List.mem_iff_getElem?.1 hv
                      have hjl : j < new.length := by have := (List.getElem?_eq_some_iff.1 hj).1; rw [hn1.1]; exact this
                      have hv1 := hn1.2 j _ v (List.getElem?_eq_getElem hjl) hj
                      have hat1 := allB_mem hat new[j] (List.mem_append_right _ (List.getElem_mem hjl))
                      obtain ⟨_, n1, n2⟩ := hv1.atom hat1
                      cases v <;> first
                        | rfl
                        | (exact absurd rfl (n1 _))
                        | (exact absurd rfl (n2 _))
                    have run : (storeCells ⟨p.b, off' + m2 * i.size, none⟩ new').run P w = .ok () (putW w p.b (setA cs (off' + m2 * i.size) new') ty' fr) := by
                      have := run_storeCells P hlt (t := ty') (fr := fr) (off := off' + m2 * i.size) new' 0 cs one (by omega) (fun j hj => h7 _ (hbehind _ (by omega)) (by omega))
                      rw [putW_self h4] at this
                      simpa using this
                    have hes : ∀ j, look ((h.nx, Ent.cells (Tr.ofList (old ++ new)) (old ++ new).length false ⟨!anyPtr (old ++ new), tyKept e cfl, (match Nat.beq cfl.fz 0 with | true => 0 | false => Nat.mul m2 i.size), false⟩) :: del h.es b) j = if j = h.nx then some (.cells (Tr.ofList (old ++ new)) (old ++ new).length false ⟨!anyPtr (old ++ new), tyKept e cfl, (match Nat.beq cfl.fz 0 with | true => 0 | false => Nat.mul m2 i.size), false⟩) else look (del h.es b) j := fun j => look_cons _ _ _
                    have hother : ∀ j x q', look (del h.es b) j = some x → φ j = some q' → q'.b ≠ p.b := fun j x q' hj hq' e => by
                      obtain ⟨a1, a2⟩ := hdel j x hj
                      exact a2 (hH.inj j b x _ q' p a1 hl hq' hp e)
                    have hout : ∀ c, c ≠ p.b → (putW w p.b (setA cs (off' + m2 * i.size) new') ty' fr).heap[c]? = w.heap[c]? := fun c hc => by rw [putW_heap hlt, if_neg hc]
                    have hown : Own φ h p.b := ⟨b, _, p, hl, rfl, hp, rfl⟩
                    have hsz' : (putW w p.b (setA cs (off' + m2 * i.size) new') ty' fr).heap.size = w.heap.size := by simp [putW]
                    refine ⟨_, .slice (some ⟨p.b, off', none⟩) (m2 + m) cap, _, φ.put h.nx ⟨p.b, off', p.tot⟩, putW w p.b (setA cs (off' + m2 * i.size) new') ty' fr, hg2, ?_, ⟨?_, ?_⟩, ?_⟩
                    · have := VRel.sl (b := h.nx) (off := 0) (n := m2 + m) (c := Nat.succ (Nat.mul 2 i.size)) (cap := cap) (Phi.put_same φ h.nx ⟨p.b, off', p.tot⟩) (.inr ⟨by show (2 * i.size + 1) % 2 = 1; omega, by
                        show 0 + off' + cap * ((2 * i.size + 1) / 2) ≤ p.tot
                        rw [show (2 * i.size + 1) / 2 = i.size by omega, ← hsize]; omega⟩) hfit
                      rw [show (0 : Nat) + off' = off' by omega] at this
                      exact this
                    · refine HRel.add (LB := LB) (φ := φ) (h := { es := del h.es b, nx := h.nx, low := h.low }) (w := w) (hH.sub (Nat.le_refl _) fun j x hj => (hdel j x hj).1) (hH.fresh _ (Nat.le_refl _)) (Nat.le_succ _) (Nat.lt_succ_self _) hes
                        (fun ⟨j, x, q', a1, a2, a3⟩ => hother j x q' a1 a2 a3) (fun c ⟨j, x, q', a1, a2, a3⟩ => hout c (a3 ▸ hother j x q' a1 a2)) ?_
                      refine ⟨setA cs (off' + m2 * i.size) new', ty', fr, by rw [putW_heap hlt, if_pos rfl], ?_, by rw [setA_size]; exact h6, ⟨fun _ j hjf hj => h7 j (by
                        cases hb0 : Nat.beq cfl.fz 0 with
                        | true => exact .inl (beq_true.1 hb0)
                        | false =>
                          rw [hb0] at hjf
                          rcases hfz with h | ⟨h, _⟩
                          · exact .inl h
                          · rcases hjf with hj0 | hj0
                            · exact absurd hj0 h
                            · exact hbehind _ hj0) (by rw [setA_size] at hj; exact hj), fun x hx => ⟨(h7t.1 x (hkt x hx).1).1, by
                        rcases (h7t.1 x (hkt x hx).1).2 with h | ⟨h, h'⟩
                        · exact .inl h
                        · rcases hfz with h0 | ⟨h0, h1⟩
                          · exact absurd h0 h
                          · have hb0 : Nat.beq cfl.fz 0 = false := by
                              cases hb : Nat.beq cfl.fz 0 with
                              | true => exact absurd (beq_true.1 hb) h
                              | false => rfl
                            rcases hoff with h2 | h2
                            · exact absurd h2 h
                            · refine .inr ?_
                              simp only [hb0]
                              exact ⟨h0, by show fr.2 ≤ off' + m2 * i.size; omega⟩⟩, fun he => by cases he⟩, fun j v hv => ?_⟩
                      · rw [setA_size, List.length_append, q2, hn2]
                        show off' + (m2 * i.size + m * i.size) ≤ cs.size
                        omega
                      · rw [Tr.get_ofList] at hv
                        have hj : j < (old ++ new).length := (List.getElem?_eq_some_iff.1 hv).1
                        refine ⟨hj, allB_mem hat v (List.mem_of_getElem? hv), ?_⟩
                        rw [List.length_append, q2, hn2] at hj
                        rw [setA_get _ _ _ _ (by rw [hnl]; exact htot')]
                        have hle' : φ.le (φ.put h.nx ⟨p.b, off', p.tot⟩) := Phi.le_put (hH.fresh _ (Nat.le_refl _))
                        by_cases hjo : j < m2 * i.size
                        · rw [List.getElem?_append_left (by omega)] at hv
                          obtain ⟨v', r1, r2⟩ := q1.at hv
                          refine ⟨v', ?_, r2.mono hle'⟩
                          rw [if_neg (by simp only; omega)]
                          -- the cells that were there
                          have hm0 : ¬ m2 = 0 := fun e => by subst e; omega
                          have hrun := q3 w hsame
                          simp only [Builtin.firstCells] at hrun
                          have hcells : ∀ j v, old'[j]? = some v → cs[off' + j]? = some v := by
                            have hoff : off' = off + p.s := by
                              rcases ho with h | ⟨h, _⟩
                              · exact h
                              · omega
                            intro j v hv
                            have hjl : j < m2 * i.size := by have := (List.getElem?_eq_some_iff.1 hv).1; omega
                            have hget := run_loadCells P h4 (n := m2 * i.size) (off := off') (l := (List.range (m2 * i.size)).map fun j => cs.getD (off' + j) Go.undef) (by simp) (fun j v hj => by
                              by_cases hjj : j < m2 * i.size
                              · simp [hjj] at hj; subst hj
                                have : off' + j < cs.size := by omega
                                simp [Array.getD_eq_getD_getElem?, this]
                              · simp [hjj] at hj)
                            rw [hget] at hrun
                            have heq : ((List.range (m2 * i.size)).map fun j => cs.getD (off' + j) Go.undef) = old' := by
                              have := (Result.ok.inj hrun).1
                              simpa using this
                            rw [← heq] at hv
                            simp [hjl] at hv
                            have : off' + j < cs.size := by omega
                            rw [← hv]
                            simp [Array.getD_eq_getD_getElem?, this]
                          exact hcells j v' r1
                        · rw [List.getElem?_append_right (by omega)] at hv
                          obtain ⟨v', r1, r2⟩ := hn1.at hv
                          refine ⟨v', ?_, r2.mono hle'⟩
                          rw [if_pos (by simp only; omega)]
                          rw [show off' + j - (off' + m2 * i.size) = j - old.length by omega]
                          exact r1
                    · refine ⟨fun j hj => Phi.put_other φ _ (Nat.ne_of_lt hj), Nat.le_succ _, by omega, rfl, rfl, rfl, fun c _ hno => ?_, fun c _ hni => ?_⟩
                      · have hcp : c ≠ p.b := fun e => hno (e ▸ hown)
                        refine ⟨hout c hcp, fun ⟨j, x, q', a1, a2, a3, a4⟩ => ?_⟩
                        have a1 := (hes j).symm.trans a1
                        by_cases hjn : j = h.nx
                        · subst hjn; rw [Phi.put_same] at a3; cases a3; exact hcp a4.symm
                        · rw [if_neg hjn] at a1; rw [Phi.put_other φ _ hjn] at a3
                          exact hno ⟨j, x, q', (hdel j x a1).1, a2, a3, a4⟩
                      · have hcp : c ≠ p.b := fun e => hni (e ▸ hown.img)
                        intro ⟨j, x, q', a1, a3, a4⟩
                        have a1 := (hes j).symm.trans a1
                        by_cases hjn : j = h.nx
                        · subst hjn; rw [Phi.put_same] at a3; cases a3; exact hcp a4.symm
                        · rw [if_neg hjn] at a1; rw [Phi.put_other φ _ hjn] at a3
                          exact hni ⟨j, x, q', (hdel j x a1).1, a3, a4⟩
                    · rw [run_append_stay ht hu hdu hi hlenw hfit (hn3 w hsame)]
                      simp only [add_none]
                      rw [run]
                      rfl
                  · cases hg2
                · exact moved (by omega) (tyKept e cfl) _ (fun x hx => (hkt x hx).2) old old' (del h.es b) h.low q1 q2 (fun j x hj => (hdel j x hj).1) (q3 w.drew hdrew) hg2
              · cases hg2
theorem appendZ_sound (hH : HRel LB φ h w) {t u ty e : TypeId} {kk : IntKind} {i : TypeInfo} {zs : List Value} {x x' y y' : Value} (ht : P.underlying t = some (.slice e)) (hu : P.underlying u = some (.int kk))
    (hz : zeroL P e = some zs) (hi : P.info? e = some i) (hs : i.size ≠ 0) (hb : i.bytes ≠ 0) (hv : VRel φ x x') (hy : VRel φ y y') {k : KV} (hx : appendZ e zs i.size i.bytes x y h k = some out) :
    ∃ v v' g ψ u', k v g = some out ∧ VRel ψ v v' ∧ Step LB φ h w ψ g u' ∧ (Builtin.append_ #[t, u] ty #[x', y']).run P w = .ok v' u' := by
  obtain ⟨i', z, hi', hzz, rfl, hpl, hsz⟩ := zeroL_inv hz
  rw [hi] at hi'; cases hi'
  unfold appendZ at hx
  split at hx <;> try (cases hx; done)
  split at hx <;> try (cases hx; done)
  rename_i m
  split at hx
  · cases hx
  · rename_i hroom
    have hroom : 4 * ((m + 1) * (i.bytes + 1)) ≤ 140737488355328 := ble_iff.1 hroom
    have hbytes : m * i.bytes ≤ 140737488355328 := by
      have : m * i.bytes ≤ (m + 1) * (i.bytes + 1) := Nat.mul_le_mul (by omega) (by omega)
      omega
    have hm : m ≤ 140737488355328 := by
      have : m * 1 ≤ (m + 1) * (i.bytes + 1) := Nat.mul_le_mul (by omega) (by omega)
      omega
    rw [hy.inv_int]
    cases hv
    have hsz' : (sizeOf e).run P w = .ok i.size w := run_sizeOf hi w
    have hw : IntKind.i64.wrap (Int.ofNat m) = (m : Int) := by
      rw [← wrapW_eq]; simp only [wrapW, signedW]; rw [blt_iff.2 (by omega)]; rfl
    have h1 : ¬ ((m : Int) < 0) := by omega
    have h2 : ¬ (281474976710656 < (m : Int) * (i.bytes : Int)) := by
      have : (m : Int) * (i.bytes : Int) = ((m * i.bytes : Nat) : Int) := by rw [Int.natCast_mul]
      rw [this]; omega
    split at hx
    · rename_i h0
      have h0 : m = 0 := beq_true.1 h0
      subst h0
      refine ⟨_, .slice none 0 0, _, φ, w, hx, .nilS, ⟨hH, Ext.refl _ _ _⟩, ?_⟩
      have hw0 : IntKind.i64.wrap 0 = 0 := hw
      simp [Builtin.append_, run_underlying ht, run_underlying hu, hsz', asInt, asIntOf, hw0, run_typeInfo hi]
    · rename_i h0
      have h0 : ¬ m = 0 := fun e => by rw [show Nat.beq m 0 = true from beq_true.2 e] at h0; cases h0
      have hg' : appendNew (some e) 0 i.size [] (repL z.cells.toList m) (0 + m) { es := h.es, nx := h.nx, low := h.low } k = some out := by rw [Nat.zero_add]; exact hx
      have hlen : (repL z.cells.toList m).length = m * i.size := by
        rw [← zeros_eq z.cells m (by omega)]; simp [hsz]
      obtain ⟨v, g, ψ, r1, r2, r3⟩ := appendNew_grown (cap := 0) (e := e) (n := 0) (old' := []) (z := z) hH hsz (LRel.nil φ) (plainL_rel φ (repL_plain hpl m)) (by simp) hlen (fun _ _ h => h) (fun _ h => by cases h; rfl) hg'
      refine ⟨v, _, g, ψ, _, r1, r2, r3, ?_⟩
      have hfit : Builtin.nextslicecap (0 + m) 0 * i.bytes ≤ 281474976710656 := growslice_fits (by omega) (by simpa using hbytes)
      have h48' : ¬ (281474976710656 < Builtin.nextslicecap m 0 * i.bytes) := by rw [Nat.zero_add] at hfit; omega
      have hmx : ¬ (IntKind.i64.max < (m : Int)) := by
        have : IntKind.i64.max = 9223372036854775807 := by decide
        omega
      have hn : ¬ (m ≤ 0) := by omega
      have hms : ¬ (m * i.size = 0) := fun e => by rcases Nat.mul_eq_zero.1 e with h | h <;> omega
      have hzc : (Builtin.zeroCells z.cells m) = (repL z.cells.toList m).toArray := by
        apply Array.ext'
        rw [← zeros_eq z.cells m (by omega)]
        rfl
      have hw' : IntKind.i64.wrap (m : Int) = (m : Int) := hw
      simp [Builtin.append_, run_underlying ht, run_underlying hu, sizeOf, asInt, asIntOf, hw', run_typeInfo hi, typeInfo, zeroValue, hi, hzz, hb, h0, h1, h2, hn, hms, hmx, h48', Question.forced, newRow, grownCap, Builtin.firstCells, hzc]
      intro hbig
      omega
end
end
end Go.Ev

namespace Go.Ev
open Go
noncomputable section

section
variable {P : Program} {LB : LBody} {φ : Phi} {h : H} {w : World} {f : Value → R} {out : Value}

theorem copy_sound (hH : HRel LB φ h w) {t u ty e : TypeId} {i : TypeInfo} {x x' y y' : Value} (ht : P.underlying t = some (.slice e)) (hi : P.info? e = some i)
    (hv : VRel φ x x') (hy : VRel φ y y') {k : KV} (hx : copy i.size x y h k = some out) :
    ∃ v v' g ψ u', k v g = some out ∧ VRel ψ v v' ∧ Step LB φ h w ψ g u' ∧ (Builtin.copy_ #[t, u] ty #[x', y']).run P w = .ok v' u' := by
  unfold copy sliceParts at hx
  cases x <;> dsimp only at hx <;> try (cases hx; done)
  rename_i a n c
  obtain ⟨m, l, l', hg, hk, hl, hlen, hr⟩ := cellsIn_sound (P := P) hH hy (fun m => Nat.min_le_left m n) hx
  have hsame : ∀ b, Img φ h b → w.heap[b]? = w.heap[b]? := fun _ _ => rfl
  have hlw := len_of (P := P) hy hk w
  have hfc := hr w hsame
  cases a with
  | none =>
    dsimp only at hg
    cases hv
    have hm0 : min m 0 = 0 := Nat.min_zero m
    rw [hm0] at hfc
    refine ⟨_, .int .i64 0, h, φ, w, hg, .int _ _, ⟨hH, Ext.refl _ _ _⟩, ?_⟩
    simp [Builtin.copy_, run_underlying ht, hlw, run_sizeOf hi, hm0, hfc, goInt]
  | some a =>
    obtain ⟨b, off, sp⟩ := a
    dsimp only at hg
    cases sp with
    | some s => cases hg
    | none =>
      dsimp only at hg
      obtain ⟨p, off', cap, hp, rfl, hc, hn, ho⟩ := slice_known hv
      split at hg
      · rename_i h0
        have h0 : min m n = 0 := beq_true.1 h0
        have hnil : l' = [] := List.length_eq_zero_iff.1 (by have := hl.1; rw [hlen, h0] at this; simpa using this.symm)
        refine ⟨_, .int .i64 0, h, φ, w, hg, .int _ _, ⟨hH, Ext.refl _ _ _⟩, ?_⟩
        rw [hnil] at hfc
        simp only [h0] at hfc
        simp [Builtin.copy_, run_underlying ht, hlw, run_sizeOf hi, h0, hfc, goInt, storeCells]
      · rename_i h0
        have h0 : ¬ Nat.min m n = 0 := fun e => by rw [show Nat.beq (Nat.min m n) 0 = true from beq_true.2 e] at h0; cases h0
        have hoff : off' = off + p.s := by
          rcases ho with h | ⟨h, _⟩
          · exact h
          · exact absurd (by rw [h]; exact Nat.min_zero m) h0
        subst hoff
        obtain ⟨g, u', r1, r2, r3⟩ := putCells_sound (P := P) hH hp hl hg
        refine ⟨_, .int .i64 ((Nat.min m n : Nat) : Int), g, φ, u', r1, .int _ _, r2, ?_⟩
        have hfc' : (Builtin.firstCells i.size (min m n) y').run P w = .ok l'.toArray w := hfc
        simp only [Builtin.copy_, List.getElem?_toArray, Sem.run_bind, run_underlying ht, Result.andThen_ok, hlw, run_sizeOf hi, hfc', Sem.run_pure]
        simp [run_underlying ht, hlw, run_sizeOf hi, hfc', r3, goInt]
theorem clear_sound (hH : HRel LB φ h w) {t ty e : TypeId} {i : TypeInfo} {zs : List Value} {x x' : Value} (ht : P.underlying t = some (.slice e)) (hi : P.info? e = some i) (hs : i.size ≠ 0) (hz : zeroL P e = some zs)
    (hv : VRel φ x x') {k : KV} (hx : clearV zs x h k = some out) :
    ∃ v v' g ψ u', k v g = some out ∧ VRel ψ v v' ∧ Step LB φ h w ψ g u' ∧ (Builtin.clear_ #[t] ty #[x']).run P w = .ok v' u' := by
  obtain ⟨i', z, hi', hzz, rfl, hpl, hsz⟩ := zeroL_inv hz
  rw [hi] at hi'; cases hi'
  have hu : VRel φ undef (.tuple #[]) := .tuple rfl (fun i v v' h => by simp at h)
  unfold clearV sliceParts at hx
  cases x <;> dsimp only at hx <;> try (cases hx; done)
  rename_i a n c
  cases a with
  | none =>
    cases hv
    exact ⟨_, _, h, φ, w, hx, hu, ⟨hH, Ext.refl _ _ _⟩, by simp [Builtin.clear_, run_underlying ht]⟩
  | some a =>
    obtain ⟨b, off, sp⟩ := a
    cases sp with
    | some s => cases hx
    | none =>
      dsimp only at hx
      obtain ⟨p, off', cap, hp, rfl, hc, hn, ho⟩ := slice_known hv
      split at hx
      · rename_i h0
        have h0 : n = 0 := beq_true.1 h0
        subst h0
        exact ⟨_, _, h, φ, w, hx, hu, ⟨hH, Ext.refl _ _ _⟩, by simp [Builtin.clear_, run_underlying ht]⟩
      · rename_i h0
        have h0 : ¬ n = 0 := fun e => by rw [show Nat.beq n 0 = true from beq_true.2 e] at h0; cases h0
        have hoff : off' = off + p.s := by
          rcases ho with h | ⟨h, _⟩
          · exact h
          · exact absurd h h0
        subst hoff
        obtain ⟨g, u', r1, r2, r3⟩ := putCells_sound (P := P) hH hp (plainL_rel φ (repL_plain hpl n)) hx
        refine ⟨_, _, g, φ, u', r1, hu, r2, ?_⟩
        rw [← zeros_eq z.cells n (by omega)] at r3
        obtain ⟨n, rfl⟩ : ∃ m, n = m + 1 := ⟨n - 1, by omega⟩
        simp only [Array.toList_map, Array.toList_range] at r3
        simp [Builtin.clear_, run_underlying ht, run_zeroValue hi hzz, Builtin.zeroCells, r3]
end
end
end Go.Ev

namespace Go.Ev
open Go
noncomputable section

/-! ### Decoding -/
def dPartsS (P : Program) (fs : Array Field) : List (Nat × Operand) → Option (List (Nat × Nat × Opd))
  | [] => some []
  | p :: r => match fs[p.1]?, dOpd P p.2, dPartsS P fs r with
    | some f, some x, some l => (match P.info? f.type with | some i => some ((f.offset, i.size, x) :: l) | none => none)
    | _, _, _ => none
def dPartsA (P : Program) (size : Nat) : List (Nat × Operand) → Option (List (Nat × Nat × Opd))
  | [] => some []
  | p :: r => match dOpd P p.2, dPartsA P size r with
    | some x, some l => some ((p.1 * size, size, x) :: l)
    | _, _ => none
/-- an interface is compared with a literal alone -/
def kdOk (kd : EK) (x y : Operand) : Bool := match kd with | .iface => isC x || isC y | _ => true
/-- the types of whole numbers that may be compared as parts of interfaces -/
def tsOk (P : Program) (u : Nat) : Bool := match P.underlying u, P.info? u with
  | some (.int _), some i => i.comparable
  | _, _ => false
def tsOf (P : Program) : List Nat := (List.range P.types.size).filter (tsOk P)
theorem tsOf_ok {P : Program} : ∀ u ∈ tsOf P, ∃ k i, P.underlying u = some (.int k) ∧ P.info? u = some i ∧ i.comparable = true := by
  intro u hu
  have h : tsOk P u = true := (List.mem_filter.1 hu).2
  unfold tsOk at h
  split at h
  · rename_i k i h1 h2; exact ⟨_, _, h1, h2, h⟩
  · cases h
/-- the type's description, if values of it are rows of cells: each has cells -/
def elemI (P : Program) (e : TypeId) : Option TypeInfo :=
  match P.info? e with
  | some i => if i.size ≠ 0 ∧ i.bytes ≠ 0 then some i else none
  | none => none
def d1 (P : Program) (eqT : TypeId → Option (List SK)) : Op → Option L1
  | .move x | .assign x => (dOpd P x).map .mov
  | .pick c a b => match dOpd P c, dOpd P a, dOpd P b with | some c, some a, some b => some (.pick c a b) | _, _, _ => none
  | .build t ps => match zeroL P t, P.underlying t with
    | some zs, some (.struct fs) => (match dPartsS P fs ps.toList, fs.toList.mapM (fun f => (P.info? f.type).map fun i => (f.offset, i.size)) with
      | some l, some _ => some (.build zs l)
      | _, _ => none)
    | some zs, some (.array _ e) => (match P.info? e with
      | some i => (match dPartsA P i.size ps.toList with | some l => some (.build zs l) | none => none)
      | none => none)
    | _, _ => none
  | .load t a => match szAgg P t, dOpd P a with | some n, some a => some (.load n a) | _, _ => none
  | .nilCheck x => (dOpd P x).map .nilCheck
  | .binOp op t x y _ => match dOpd P x, dOpd P y with
    | some x', some y' => (match op with
      | .eql => (match eqKind P t with
        | some kd => if kdOk kd x y then some (.eq kd false x' y') else some (.eq (.ifaceT (tsOf P)) false x' y')
        | none => (match eqT t with | some s => some (.binA false s x' y') | none => none))
      | .neq => (match eqKind P t with
        | some kd => if kdOk kd x y then some (.eq kd true x' y') else some (.eq (.ifaceT (tsOf P)) true x' y')
        | none => (match eqT t with | some s => some (.binA true s x' y') | none => none))
      | op => some (.bin op x' y'))
    | _, _ => none
  | .unOp op _ x => (dOpd P x).map (.un op)
  | .convert s d x => match dOpd P x, P.underlying s, P.underlying d with
    | some x, some _, some (.int k) => some (.convI k x)
    | some x, some (.slice e), some .string => (match P.underlying e with | some (.int .u8) => some (.bytesStr x) | _ => none)
    | some x, some .string, some .string => some (.convS x)
    | some x, some (.pointer t), some .unsafePointer => (match P.info? t with
      | some j => if j.size ≠ 0 then some (.toUn x) else none
      | none => none)
    | some x, some .unsafePointer, some (.pointer u) => (match P.info? u with
      | some _ => if P.cellsOf u ≠ 0 then some (.fromUn u (P.cellsOf u) x) else none
      | none => none)
    | _, _, _ => none
  | .makeInterface t x => match dOpd P x, P.underlying t with
    | some x, some d => (match d with | .interface _ => none | _ => some (.mkIface t x))
    | _, _ => none
  | .makeFunc (.func f) a b => match dOpds P a.toList, dOpds P b.toList with | some a, some b => some (.mkFunc f a b) | _, _ => none
  | .slice t x l h m => match dOpd P x, dOpdO P l, dOpdO P h, dOpdO P m with
    | some x, some l, some h, some m => if m.isSome && !h.isSome then none else (match P.underlying t with
      | some .string => if m.isSome then none else some (.sliceStr x l h)
      | some (.slice e) => (match P.info? e with | some i => some (.sliceSl i.size x l h m) | none => none)
      | some (.array n e) => (match P.info? e with | some i => some (.sliceArr n i.size x l h m) | none => none)
      | _ => none)
    | _, _, _, _ => none
  | .fieldAddr s x f => match dOpd P x, P.underlying s with
    | some x, some (.struct fs) => (match fs[f]? with
      | some fl => (match P.info? fl.type with | some i => if i.size ≠ 0 then some (.fieldAddr fl.offset x) else none | none => none)
      | none => none)
    | _, _ => none
  | .field s x f => match dOpd P x, P.underlying s with
    | some x, some (.struct fs) => (match fs[f]? with
      | some fl => (match szAgg P fl.type with | some m => some (.field fl.offset m x) | none => none)
      | none => none)
    | _, _ => none
  | .indexAddr t x i => match dOpd P x, dOpd P i, P.underlying t with
    | some x, some i, some (.slice e) => (match P.info? e with | some ti => some (.idxAddrS ti.size x i) | none => none)
    | some x, some i, some (.array n e) => (match P.info? e with | some ti => some (.idxAddrA n ti.size x i) | none => none)
    | _, _, _ => none
  | .index t x i => match dOpd P x, dOpd P i, P.underlying t with
    | some x, some i, some .string => some (.idxStr x i)
    | some x, some i, some (.array n e) => (match P.info? e, szAgg P e with | some ti, some m => some (.idxA n ti.size m x i) | _, _ => none)
    | _, _, _ => none
  | .extract x i => (dOpd P x).map (fun x => .extract x i)
  | .call c => match c.callee with
    | .builtin .len => (match c.argTypes.toList, c.args.toList with
      | [t], [x] => (match P.underlying t, dOpd P x with
        | some .string, some x => some (.lenS x)
        | some (.slice _), some x => some (.lenL x)
        | some (.array n _), some _ => some (.lenC n)
        | some (.pointer a), some _ => (match P.underlying a with | some (.array n _) => some (.lenC n) | _ => none)
        | _, _ => none)
      | _, _ => none)
    | .builtin .cap => (match c.argTypes.toList, c.args.toList with
      | [t], [x] => (match P.underlying t, dOpd P x with
        | some (.slice _), some x => some (.capL x)
        | _, _ => none)
      | _, _ => none)
    | .builtin .unsafeSliceData => (match c.args.toList with
      | [x] => (dOpd P x).map .slData
      | _ => none)
    | .builtin .max => (match dOpds P c.args.toList with | some (x :: xs) => some (.max x xs) | _ => none)
    | .builtin .min => (match dOpds P c.args.toList with | some (x :: xs) => some (.min x xs) | _ => none)
    | _ => none
  | .typeAssert x _ t ok => match dOpd P x, P.underlying t, P.info? t with
    | some x, some d, some i => (match d, i.zero with
      | .interface _, _ => none
      | _, some z => if plainV z then some (.typeAssert t z ok x) else none
      | _, none => none)
    | _, _, _ => none
  | _ => none
def d2 (P : Program) : Op → Option L2
  | .alloc t => (zeroL P t).map (.alloc (some t))
  | .box _ x => (dOpd P x).map .box
  | .buildSlice t n ps => match P.underlying t with
    | some (.slice e) => (match elemI P e, zeroL P e with
      | some i, some zs => if n * i.size ≤ 2 ^ 24 then (match dPartsA P i.size ps.toList with | some l => some (.buildSlice n (repL zs n) l) | none => none) else none
      | _, _ => none)
    | _ => none
  | .makeSlice t l c => match P.underlying t, dOpd P l, dOpd P c with
    | some (.slice e), some l, some c => (match elemI P e, zeroL P e with
      | some i, some zs => some (.makeSlice e zs i.bytes l c)
      | _, _ => none)
    | _, _, _ => none
  | .convert s d x => match dOpd P x, P.underlying s, P.underlying d with
    | some x, some .string, some (.slice e) => (match P.underlying e with | some (.int .u8) => some (.strBytes x) | _ => none)
    | _, _, _ => none
  | .range t x => match P.underlying t, dOpd P x with
    | some .string, some x => some (.rangeStr x)
    | _, _ => none
  | _ => none
/-- keys of a map: strings, or rows of scalars -/
def dKey (P : Program) (eqT : TypeId → Option (List SK)) (kt : TypeId) : Option (Option (List SK)) := match P.underlying kt with
  | some .string => some none
  | _ => (eqT kt).map some
def d3 (P : Program) (eqT : TypeId → Option (List SK)) : Op → Option L3
  | .store t a v => match sz P t, dOpd P a, dOpd P v with | some n, some a, some v => some (.store n a v) | _, _, _ => none
  | .call c => match c.callee with
    | .value (.func f) => (match dOpds P c.args.toList with | some l => some (.call f l) | none => none)
    | .value x => (match dOpd P x, dOpds P c.args.toList with | some x, some l => some (.callV x l) | _, _ => none)
    | .builtin .append => (match c.argTypes.toList, c.args.toList with
      | [t, u], [x, y] => (match P.underlying t, P.underlying u, dOpd P x, dOpd P y with
        | some (.slice e), some d, some x, some y => (match d with
          | .slice _ | .string => (match elemI P e, zeroL P e with
            | some i, some _ => some (.append e i.size i.bytes x y)
            | _, _ => none)
          | .int _ => (match elemI P e, zeroL P e with
            | some i, some zs => some (.appendZ e zs i.size i.bytes x y)
            | _, _ => none)
          | _ => none)
        | _, _, _, _ => none)
      | _, _ => none)
    | .builtin .copy => (match c.argTypes.toList, c.args.toList with
      | [t, _], [x, y] => (match P.underlying t, dOpd P x, dOpd P y with
        | some (.slice e), some x, some y => (match P.info? e with | some i => some (.copy i.size x y) | none => none)
        | _, _, _ => none)
      | _, _ => none)
    | .builtin .clear => (match c.argTypes.toList, c.args.toList with
      | [t], [x] => (match P.underlying t, dOpd P x with
        | some (.slice e), some x => (match elemI P e, zeroL P e with
          | some _, some zs => some (.clear zs x)
          | _, _ => none)
        | _, _ => none)
      | _, _ => none)
    | .builtin .unsafeString => (match c.argTypes.toList, c.args.toList with
      | [t, _], [x, y] => (match P.underlying t, dOpd P x, dOpd P y with
        | some (.pointer e), some x, some y => if P.cellsOf e = 1 then some (.unStr e x y) else none
        | _, _, _ => none)
      | _, _ => none)
    | _ => none
  | .panic x => (dOpd P x).map .panic
  | .next x true => (dOpd P x).map .nextStr
  | .defer c => match c.callee with
    | .value x => (match dOpd P x, dOpds P c.args.toList with | some x, some l => some (.defer x l) | _, _ => none)
    | _ => none
  | .makeMap _ none => some .mkMap
  | .lookup t x k ok => match P.underlying t, dOpd P x, dOpd P k with
    | some (.map kt e), some x, some k => (match dKey P eqT kt, zeroV P e with | some ks, some z => some (.mapGet ks z ok x k) | _, _ => none)
    | _, _, _ => none
  | .mapUpdate t x k v => match P.underlying t, dOpd P x, dOpd P k, dOpd P v with
    | some (.map kt _), some x, some k, some v => (match dKey P eqT kt with | some ks => some (.mapSet ks x k v) | _ => none)
    | _, _, _, _ => none
  | _ => none
def dOp (P : Program) (eqT : TypeId → Option (List SK)) (op : Op) : Option I :=
  match d1 P eqT op with
  | some i => some (.a i)
  | none => match d2 P op with
    | some i => some (.b i)
    | none => (d3 P eqT op).map .c
end
end Go.Ev

namespace Go.Ev
open Go
noncomputable section

def EqSpec (P : Program) (t : TypeId) (s : List SK) : Prop :=
  P.eqGuardType P.depth t = false ∧ (∀ (l m : List Value) (b : Bool) (w : World), aggEqB s l m true = some b → (Op.equal t (.agg l.toArray) (.agg m.toArray)).run P w = .ok b w) ∧
  (P.underlying t ≠ some .string ∧ (∃ td, P.underlying t = some td ∧ (match td with | .struct _ | .array _ _ => True | _ => False))) ∧
  ∀ (l : List Value) (b c : Bool) (w : World), aggEqB s l l true = some b → (Instr.checkKey c 10000 t (.agg l.toArray)).run P w = .ok () w

section
variable {P : Program} {LB : LBody} {φ : Phi} {h : H} {w : World} {f : Value → R} {out : Value} {env : Env} {a : Act} {eqT : TypeId → Option (List SK)}

theorem aggEqL_inv {g : Bool → R} (s : List SK) : ∀ (l m : List Value) (acc : Bool), aggEqL g s l m acc = some out → ∃ b, aggEqB s l m acc = some b ∧ g b = some out ∧ ∀ l' m', LRel φ l l' → LRel φ m m' → l' = l ∧ m' = m := by
  induction s with
  | nil =>
    intro l m acc hx
    cases l with
    | cons _ _ => cases m <;> cases hx
    | nil =>
      cases m with
      | nil => exact ⟨acc, rfl, hx, fun l' m' h1 h2 => ⟨h1.of_nil, h2.of_nil⟩⟩
      | cons b y => cases hx
  | cons k ks ih =>
    intro l m acc hx
    cases l with
    | nil => cases m <;> cases hx
    | cons v x =>
    cases m with
    | nil => cases hx
    | cons u y =>
      cases k <;> cases v <;> simp only [aggEqL] at hx <;> try (cases hx; done)
      case i.int k n =>
        cases u <;> simp only at hx <;> try (cases hx; done)
        split at hx
        · rename_i hk
          obtain ⟨b, h1, h2, h3⟩ := ih _ _ _ hx
          refine ⟨b, by simp only [aggEqB, hk]; exact h1, h2, fun l' m' r1 r2 => ?_⟩
          obtain ⟨v', r, rfl, e1, e2⟩ := r1.uncons
          obtain ⟨u', s, rfl, e3, e4⟩ := r2.uncons
          obtain ⟨rfl, rfl⟩ := h3 _ _ e2 e4
          rw [e1.inv_int, e3.inv_int]; exact ⟨rfl, rfl⟩
        · cases hx
      case b.bool n =>
        cases u <;> simp only at hx <;> try (cases hx; done)
        obtain ⟨b, h1, h2, h3⟩ := ih _ _ _ hx
        refine ⟨b, by simp only [aggEqB]; exact h1, h2, fun l' m' r1 r2 => ?_⟩
        obtain ⟨v', r, rfl, e1, e2⟩ := r1.uncons
        obtain ⟨u', s, rfl, e3, e4⟩ := r2.uncons
        obtain ⟨rfl, rfl⟩ := h3 _ _ e2 e4
        rw [e1.inv_bool, e3.inv_bool]; exact ⟨rfl, rfl⟩
      case s.string n =>
        cases u <;> simp only at hx <;> try (cases hx; done)
        obtain ⟨b, h1, h2, h3⟩ := ih _ _ _ hx
        refine ⟨b, by simp only [aggEqB]; exact h1, h2, fun l' m' r1 r2 => ?_⟩
        obtain ⟨v', r, rfl, e1, e2⟩ := r1.uncons
        obtain ⟨u', s, rfl, e3, e4⟩ := r2.uncons
        obtain ⟨rfl, rfl⟩ := h3 _ _ e2 e4
        rw [e1.inv_str, e3.inv_str]; exact ⟨rfl, rfl⟩
theorem aggEq_sound {t : TypeId} {sg : List SK} {g : Bool → R} {x y x' y' : Value} {xo yo : Operand} (hq : EqSpec P t sg) (h1 : VRel φ x x') (h2 : VRel φ y y') (hx : aggEq sg x y g = some out) :
    ∃ b, g b = some out ∧ (∀ op, (eqGuard op t xo yo x' y').run P w = .ok () w) ∧ (binOp .eql t x' y').run P w = .ok (.bool b) w ∧ (binOp .neq t x' y').run P w = .ok (.bool (!b)) w := by
  unfold aggEq at hx
  cases x <;> simp only at hx <;> try (cases hx; done)
  cases y <;> simp only at hx <;> try (cases hx; done)
  rename_i c d
  obtain ⟨c', rfl, l1⟩ := h1.inv_agg
  obtain ⟨d', rfl, l2⟩ := h2.inv_agg
  obtain ⟨b, r1, r2, r3⟩ := aggEqL_inv (φ := φ) _ _ _ _ hx
  obtain ⟨e1, e2⟩ := r3 _ _ l1 l2
  have he := hq.2.1 _ _ b w r1
  rw [← e1, ← e2] at he
  refine ⟨b, r2, fun op => ?_, by simp only [binOp, Sem.run_bind]; rw [he]; rfl, by simp only [binOp, Sem.run_bind]; rw [he]; rfl⟩
  cases op <;> simp [eqGuard, hq.1]
theorem val_run {s : Sem Value} {v' : Value} {u : World} (hs : s.run P w = .ok v' u) : ((do pure (Next.value (← s)) : Sem Next)).run P w = .ok (.value v') u := by simp [hs]
theorem orel_of (hG : GRel P φ) (hE : LRel φ env a.tmps.toList) {x : Option Operand} {y : Option Opd} (hd : dOpdO P x = some y) : ORel φ (evo env y) (x.map a.eval) := by
  have := evo_rel hG hE hd
  cases x with
  | none => cases hy : evo env y with
    | none => trivial
    | some u => rw [hy] at this; exact this
  | some x => cases hy : evo env y with
    | none => rw [hy] at this; exact this
    | some u => rw [hy] at this; exact this
theorem elemI_inv {e : TypeId} {i : TypeInfo} (he : elemI P e = some i) : P.info? e = some i ∧ i.size ≠ 0 ∧ i.bytes ≠ 0 := by
  unfold elemI at he
  split at he
  · split at he
    · cases he; exact ⟨by assumption, by rename_i h; exact h.1, by rename_i h; exact h.2⟩
    · cases he
  · cases he
theorem partsA_rel (hG : GRel P φ) (hE : LRel φ env a.tmps.toList) {size : Nat} : ∀ {ps : List (Nat × Operand)} {l : List (Nat × Nat × Opd)}, dPartsA P size ps = some l →
    PRel φ (fun j => some (j * size, size)) (evp env l) (ps.map fun p => (p.1, a.eval p.2)) := by
  intro ps
  induction ps with
  | nil => intro l hd; simp [dPartsA] at hd; subst hd; trivial
  | cons p r ih =>
    intro l hd
    simp only [dPartsA] at hd
    split at hd
    · rename_i x l2 hx hl
      cases hd
      exact ⟨rfl, ev_rel hG hE hx, ih hl⟩
    · cases hd
theorem places_get {fs : List Field} : ∀ {pl : List (Nat × Nat)}, fs.mapM (fun f => (P.info? f.type).map fun i => (f.offset, i.size)) = some pl → ∀ (n : Nat) (f : Field) (i : TypeInfo), fs[n]? = some f → P.info? f.type = some i → pl[n]? = some (f.offset, i.size) := by
  induction fs with
  | nil => intro pl _ n f i hf; simp at hf
  | cons g r ih =>
    intro pl hp n f i hf hi
    simp only [List.mapM_cons, Option.bind_eq_bind, Option.pure_def] at hp
    cases hgi : P.info? g.type with
    | none => simp [hgi] at hp
    | some j =>
      cases hr : r.mapM (fun f => (P.info? f.type).map fun i => (f.offset, i.size)) with
      | none => simp [hgi, hr] at hp
      | some rest =>
        simp [hgi, hr] at hp
        subst hp
        cases n with
        | zero => simp at hf; subst hf; rw [hgi] at hi; cases hi; rfl
        | succ n => simp at hf; simpa using ih hr n f i hf hi
theorem partsS_rel (hG : GRel P φ) (hE : LRel φ env a.tmps.toList) {fs : Array Field} {pl : List (Nat × Nat)} (hp : fs.toList.mapM (fun f => (P.info? f.type).map fun i => (f.offset, i.size)) = some pl) : ∀ {ps : List (Nat × Operand)} {l : List (Nat × Nat × Opd)}, dPartsS P fs ps = some l →
    PRel φ (pl.toArray[·]?) (evp env l) (ps.map fun p => (p.1, a.eval p.2)) := by
  intro ps
  induction ps with
  | nil => intro l hd; simp [dPartsS] at hd; subst hd; trivial
  | cons p r ih =>
    intro l hd
    simp only [dPartsS] at hd
    split at hd
    · rename_i f x l2 hf hx hl
      split at hd
      · rename_i i hi
        cases hd
        refine ⟨?_, ev_rel hG hE hx, ih hl⟩
        have := places_get hp p.1 f i (by simpa using hf) hi
        simpa using this
      · cases hd
    · cases hd
end
end
end Go.Ev

namespace Go.Ev
open Go
noncomputable section
variable {P : Program} {LB : LBody} {φ : Phi} {h : H} {w : World} {out : Value}

theorem MpRel.nil (φ : Phi) : MpRel φ [] [] := ⟨rfl, fun i p e a => by simp at a⟩
theorem MpRel.cons {φ : Phi} {s v : Value} {e : MapEntry} {l : List (Value × Value)} {es : List MapEntry} (hk : e.key = s) (hv : VRel φ v e.val) (h : MpRel φ l es) : MpRel φ ((s, v) :: l) (e :: es) :=
  ⟨by simp [h.1], fun i p x a b => by cases i with
    | zero => simp at a b; subst a b; exact ⟨hk, hv⟩
    | succ i => exact h.2 i p x (by simpa using a) (by simpa using b)⟩
theorem MpRel.uncons {φ : Phi} {p : Value × Value} {l : List (Value × Value)} {es : List MapEntry} (h : MpRel φ (p :: l) es) : ∃ e r, es = e :: r ∧ e.key = p.1 ∧ VRel φ p.2 e.val ∧ MpRel φ l r := by
  cases es with
  | nil => have := h.1; simp at this
  | cons e r =>
    have h0 := h.2 0 p e rfl rfl
    refine ⟨e, r, rfl, h0.1, h0.2, ?_, fun i q x a b => h.2 (i + 1) q x (by simpa using a) (by simpa using b)⟩
    have := h.1; simp at this; exact this

/-! ### Keys -/
theorem aggEqB_exact {s : List SK} : ∀ {l m : List Value} {acc b : Bool} {l' : List Value}, aggEqB s l m acc = some b → LRel φ l l' → l' = l := by
  induction s with
  | nil => intro l m acc b l' h r; cases l <;> cases m <;> first | (cases h; done) | exact r.of_nil
  | cons k ks ih =>
    intro l m acc b l' h r
    cases l with
    | nil => cases m <;> cases h
    | cons v x =>
      cases m with
      | nil => cases h
      | cons u y =>
        obtain ⟨v', r', rfl, e1, e2⟩ := r.uncons
        cases k <;> cases v <;> simp only [aggEqB] at h <;> try (cases h; done)
        all_goals cases u <;> simp only at h <;> try (cases h; done)
        · split at h
          · rw [ih h e2, e1.inv_int]
          · cases h
        · rw [ih h e2, e1.inv_bool]
        · rw [ih h e2, e1.inv_str]
theorem aggEqB_false {s : List SK} : ∀ {l m : List Value} {b : Bool}, aggEqB s l m false = some b → b = false := by
  induction s with
  | nil => intro l m b h; cases l <;> cases m <;> first | (cases h; done) | (cases h; rfl)
  | cons k ks ih =>
    intro l m b h
    cases l with
    | nil => cases m <;> cases h
    | cons v x =>
      cases m with
      | nil => cases h
      | cons u y =>
        cases k <;> cases v <;> simp only [aggEqB] at h <;> try (cases h; done)
        all_goals cases u <;> simp only at h <;> try (cases h; done)
        · split at h
          · exact ih h
          · cases h
        · exact ih h
        · exact ih h
theorem aggEqB_eq {s : List SK} : ∀ {l m : List Value}, aggEqB s l m true = some true → l = m ∧ ∀ v ∈ l, Instr.sameBits 9999 v v = true := by
  induction s with
  | nil => intro l m h; cases l <;> cases m <;> first | (cases h; done) | exact ⟨rfl, fun v hv => by simp at hv⟩
  | cons k ks ih =>
    intro l m h
    cases l with
    | nil => cases m <;> cases h
    | cons v x =>
      cases m with
      | nil => cases h
      | cons u y =>
        have key : ∀ {q : Bool}, aggEqB ks x y (and true q) = some true → q = true ∧ x = y ∧ ∀ v ∈ x, Instr.sameBits 9999 v v = true := fun {q} h => by
          cases q with
          | false => exact absurd (aggEqB_false h) (by decide)
          | true => exact ⟨rfl, ih h⟩
        have fin : v = u → Instr.sameBits 9999 v v = true → x = y ∧ (∀ v ∈ x, Instr.sameBits 9999 v v = true) → v :: x = u :: y ∧ ∀ w ∈ v :: x, Instr.sameBits 9999 w w = true := fun a b c => by
          refine ⟨by rw [a, c.1], fun w hw => ?_⟩
          rcases List.mem_cons.1 hw with rfl | hw
          · exact b
          · exact c.2 w hw
        cases k <;> cases v <;> simp only [aggEqB] at h <;> try (cases h; done)
        all_goals cases u <;> simp only at h <;> try (cases h; done)
        · split at h
          · rename_i hk
            obtain ⟨h1, h2⟩ := key h
            refine fin ?_ ?_ h2
            · rw [of_decide_eq_true hk]; rw [ieq_eq] at h1; rw [of_decide_eq_true h1]
            · simp [Instr.sameBits]
          · cases h
        · obtain ⟨h1, h2⟩ := key h
          exact fin (by rw [eq_of_beq h1]) (by simp [Instr.sameBits]) h2
        · obtain ⟨h1, h2⟩ := key h
          refine fin (by rw [(strEq_iff _ _).1 h1]) ?_ h2
          simp [Instr.sameBits, bytes_beq, (strEq_iff _ _).2 rfl]
theorem zip_self {f : Value → Value → Bool} : ∀ {l : List Value}, (∀ v ∈ l, f v v = true) → (l.zip l).all (fun x => match x with | (x, y) => f x y) = true := by
  intro l
  induction l with
  | nil => intro _; rfl
  | cons v r ih =>
    intro h
    simp only [List.zip_cons_cons, List.all_cons, Bool.and_eq_true]
    exact ⟨h v (by simp), ih fun u hu => h u (by simp [hu])⟩

/-- what kinds of keys are known -/
def KeyOK (P : Program) (kt : TypeId) (ks : Option (List SK)) : Prop := match ks with
  | none => P.underlying kt = some .string
  | some s => EqSpec P kt s
theorem dKey_ok {eqT : TypeId → Option (List SK)} (hq : ∀ t s, eqT t = some s → EqSpec P t s) {kt : TypeId} {ks : Option (List SK)} (h : dKey P eqT kt = some ks) : KeyOK P kt ks := by
  unfold dKey at h
  split at h
  · cases h; assumption
  · cases he : eqT kt with
    | none => rw [he] at h; cases h
    | some s => rw [he] at h; cases h; exact hq _ _ he
theorem keyEq_exact {ks : Option (List SK)} {k m k' : Value} {b : Bool} (h : keyEqB ks k m = some b) (hv : VRel φ k k') : k' = k := by
  cases ks with
  | none =>
    cases k <;> simp only [keyEqB] at h <;> try (cases h; done)
    exact hv.inv_str
  | some s =>
    cases k <;> simp only [keyEqB] at h <;> try (cases h; done)
    cases m <;> simp only at h <;> try (cases h; done)
    cases hv with
    | agg h1 h2 =>
      have := aggEqB_exact h (φ := φ) ⟨h1, h2⟩
      simp only at this
      subst this
      rfl
theorem keyEq_true {ks : Option (List SK)} {k m : Value} (h : keyEqB ks k m = some true) : k = m ∧ Instr.sameBits 10000 k k = true := by
  cases ks with
  | none =>
    cases k <;> simp only [keyEqB] at h <;> try (cases h; done)
    cases m <;> simp only at h <;> try (cases h; done)
    rename_i s t
    have e := (strEq_iff _ _).1 (Option.some.inj h)
    refine ⟨by rw [e], ?_⟩
    show (s == s) = true
    rw [bytes_beq]; exact (strEq_iff _ _).2 rfl
  | some s =>
    cases k <;> simp only [keyEqB] at h <;> try (cases h; done)
    cases m <;> simp only at h <;> try (cases h; done)
    obtain ⟨h1, h2⟩ := aggEqB_eq h
    rename_i a b
    refine ⟨by rw [Array.toList_inj.1 h1], ?_⟩
    show (a.size == a.size && _) = true
    rw [Bool.and_eq_true]
    exact ⟨by simp, zip_self h2⟩
/-- what is found, and what becomes of the entries at a store -/
theorem find_sound {φ : Phi} {ks : Option (List SK)} {k : Value} {v v' : Value} (hv : VRel φ v v') (born : Nat) (F : List MapEntry → Nat → Sem (Option (Nat × Value))) (hF0 : ∀ i, (F [] i).run P w = .ok none w)
    (hF1 : ∀ e es i b, keyEqB ks k e.key = some b → (F (e :: es) i).run P w = if b then .ok (some (i, e.val)) w else (F es (i + 1)).run P w) : ∀ (l : List (Value × Value)) (es : List MapEntry) (i : Nat) (r : Option Value), MpRel φ l es → findM ks k l = some r →
    (∃ j u u' e, (F es i).run P w = .ok (some (i + j, u')) w ∧ r = some u ∧ VRel φ u u' ∧ es[j]? = some e ∧ keyEqB ks k e.key = some true ∧ ∃ l', setM ks k v l = some l' ∧ MpRel φ l' (es.modify j fun e => { e with key := k, val := v' })) ∨
    ((F es i).run P w = .ok none w ∧ r = none ∧ ∃ l', setM ks k v l = some l' ∧ MpRel φ l' (es ++ [{ key := k, val := v', born := born }])) := by
  intro l
  induction l with
  | nil =>
    intro es i r hm hr
    have : es = [] := by have := hm.1; simp at this; exact List.length_eq_zero_iff.1 this.symm
    subst this
    cases hr
    exact .inr ⟨hF0 i, rfl, _, rfl, MpRel.cons rfl hv (MpRel.nil φ)⟩
  | cons p rl ih =>
    intro es i r hm hr
    obtain ⟨e, rest, rfl, hk, hv0, hm'⟩ := hm.uncons
    obtain ⟨ek, ev, eb⟩ := e
    simp only at hk hv0
    subst hk
    simp only [findM, setM] at hr ⊢
    cases hs : keyEqB ks k p.1 with
    | none => rw [hs] at hr; cases hr
    | some b =>
      rw [hs] at hr
      rw [hF1 ⟨p.1, ev, eb⟩ rest i b hs]
      cases b with
      | true =>
        cases hr
        exact .inl ⟨0, _, _, ⟨p.1, ev, eb⟩, rfl, rfl, hv0, rfl, hs, _, rfl, by simp only [List.modify_zero_cons]; exact MpRel.cons rfl hv hm'⟩
      | false =>
        simp only at hr
        rcases ih rest (i + 1) r hm' hr with ⟨j, u, u', e, h1, h2, h3, h4, h5, l', h6, h7⟩ | ⟨h1, h2, l', h6, h7⟩
        · refine .inl ⟨j + 1, u, u', e, ?_, h2, h3, by simpa using h4, h5, p :: l', by simp only [h6], ?_⟩
          · simp only [Bool.false_eq_true, if_false, h1, Nat.add_assoc, Nat.add_comm 1 j]
          · simp only [List.modify_succ_cons]; exact MpRel.cons rfl hv0 h7
        · refine .inr ⟨?_, h2, p :: l', by simp only [h6], MpRel.cons rfl hv0 h7⟩
          simp only [Bool.false_eq_true, if_false, h1]
theorem run_getMap {w : World} {r : Nat} {es : Array MapEntry} {c : Nat} (h : w.heap[r]? = some (.map es c)) : (getObj r).run P w = .ok (.map es c) w := by
  simp [getObj, Sem.run, h]
theorem run_setMap {w : World} {r : Nat} {es : Array MapEntry} {c : Nat} (h : w.heap[r]? = some (.map es c)) (o : Obj) : (setObj r o).run P w = .ok () { w with heap := w.heap.setIfInBounds r o } := by
  simp [setObj, Sem.run, h]
theorem run_checkStr {w : World} {t : TypeId} {s : ByteArray} (hu : P.underlying t = some .string) (b : Bool) : (Instr.checkKey b 10000 t (.string s)).run P w = .ok () w := by
  generalize hn : 9999 = n
  have : 10000 = n + 1 := by omega
  rw [this]
  simp [Instr.checkKey, run_underlying hu]
theorem run_checkKey {w : World} {kt : TypeId} {ks : Option (List SK)} (ho : KeyOK P kt ks) {k m : Value} {q : Bool} (h : keyEqB ks k k = some q) (b : Bool) : (Instr.checkKey b 10000 kt k).run P w = .ok () w := by
  cases ks with
  | none =>
    cases k <;> simp only [keyEqB] at h <;> try (cases h; done)
    exact run_checkStr ho b
  | some s =>
    cases k <;> simp only [keyEqB] at h <;> try (cases h; done)
    exact ho.2.2.2 _ q b w h
theorem findNow_row {td : TypeDesc} (htd : match td with | .struct _ | .array _ _ => True | _ => False) (k : Value) (e : MapEntry) (es : List MapEntry) (i : Nat) : Instr.findNow td k (e :: es) i = none := by
  have : Instr.sameNow td k e.key = none := by
    cases td <;> simp only at htd <;> rfl
  simp only [Instr.findNow, this]
/-- finding a key -/
theorem findKey_ex {kt : TypeId} {ks : Option (List SK)} (ho : KeyOK P kt ks) {k : Value} (hk : keyEqB ks k k = some true) :
    ∃ F : List MapEntry → Nat → Sem (Option (Nat × Value)), (∀ w i, (F [] i).run P w = .ok none w) ∧
      (∀ w e es i b, keyEqB ks k e.key = some b → (F (e :: es) i).run P w = if b then .ok (some (i, e.val)) w else (F es (i + 1)).run P w) ∧
      ∀ es w r, (F es 0).run P w = .ok r w → (Instr.findKey kt k es).run P w = .ok r w := by
  cases ks with
  | none =>
    cases k <;> simp only [keyEqB] at hk <;> try (cases hk; done)
    rename_i s
    have ho : P.underlying kt = some .string := ho
    refine ⟨fun es i => match Instr.findNow .string (.string s) es i with | some r => pure r | none => stuck "", fun w i => by simp [Instr.findNow], fun w e es i b h => ?_, fun es w r h => ?_⟩
    · obtain ⟨ek, ev, eb⟩ := e
      cases ek <;> simp only [keyEqB] at h <;> try (cases h; done)
      simp only [Instr.findNow, Instr.sameNow, bytes_beq]
      cases h
      rename_i t
      cases strEq s t <;> simp
    · simp only [Instr.findKey, Sem.run_bind, run_underlying ho, Result.andThen_ok]
      cases hf : Instr.findNow .string (.string s) es 0 with
      | none => simp only [hf] at h; simp [stuck] at h
      | some r' => simp only [hf] at h; exact h
  | some sg =>
    cases k <;> simp only [keyEqB] at hk <;> try (cases hk; done)
    rename_i a
    obtain ⟨_, heq, ⟨hns, td, hu, htd⟩, _⟩ := ho
    refine ⟨fun es i => Instr.findAsking kt (.agg a) es i, fun w i => by simp [Instr.findAsking], fun w e es i b h => ?_, fun es w r h => ?_⟩
    · obtain ⟨ek, ev, eb⟩ := e
      cases ek <;> simp only [keyEqB] at h <;> try (cases h; done)
      rename_i m
      have := heq a.toList m.toList b w h
      simp only [Array.toArray_toList] at this
      simp only [Instr.findAsking, Sem.run_bind, this, Result.andThen_ok]
      cases b <;> simp
    · cases es with
      | nil =>
        simp [Instr.findAsking] at h
        subst h
        simp [Instr.findKey, run_underlying hu, Instr.findNow]
      | cons e es =>
        simp only [Instr.findKey, Sem.run_bind, run_underlying hu, Result.andThen_ok, findNow_row htd]
        exact h
theorem mkMap_sound (hH : HRel LB φ h w) {t : TypeId} {k : KV} (hx : mkMap h k = some out) :
    ∃ v v' g ψ u, k v g = some out ∧ VRel ψ v v' ∧ Step LB φ h w ψ g u ∧ (Instr.makeMap t none).run P w = .ok v' u := by
  have hes : ∀ i, look ((h.nx, Ent.mp []) :: h.es) i = if i = h.nx then some (.mp []) else look h.es i := fun i => look_cons _ _ _
  refine ⟨_, .map (some w.heap.size), _, φ.put h.nx ⟨w.heap.size, 0, 0⟩, w.alloc (.map #[] 0), hx, .mp (Phi.put_same φ h.nx ⟨w.heap.size, 0, 0⟩),
    ⟨hH.alloc (hH.fresh _ (Nat.le_refl _)) (Nat.le_succ _) (Nat.lt_succ_self _) hes ⟨rfl, _, _, heap_alloc_new w _, MpRel.nil _⟩, ext_alloc (Nat.lt_succ_self _) hes⟩, ?_⟩
  simp [Instr.makeMap]
theorem VRel.inv_map {φ : Phi} {r : Nat} {v' : Value} (h : VRel φ (.map (some r)) v') : ∃ p, φ r = some p ∧ v' = .map (some p.b) := by
  cases h with | mp h => exact ⟨_, h, rfl⟩
theorem mapRet_rel {φ : Phi} {v v' : Value} (ok b : Bool) (h : VRel φ v v') : VRel φ (mapRet ok v b) (if ok then .tuple #[v', .bool b] else v') := by
  cases ok with
  | false => exact h
  | true => exact VRel.tuple' (l := [v, .bool b]) (l' := [v', .bool b]) (LRel.cons h (LRel.cons (.bool b) (LRel.nil φ)))
theorem mapGet_sound {eqT : TypeId → Option (List SK)} (hq : ∀ t s, eqT t = some s → EqSpec P t s) (hH : HRel LB φ h w) {t kt e : TypeId} {ks : Option (List SK)} {z : Value} {ok : Bool} {x x' k k' : Value} (hu : P.underlying t = some (.map kt e)) (hd : dKey P eqT kt = some ks) (hz : zeroV P e = some z)
    (hv : VRel φ x x') (hy : VRel φ k k') {f : Value → R} (hx : mapGet ks z ok x k h f = some out) :
    ∃ v v', f v = some out ∧ VRel φ v v' ∧ (Instr.lookup t x' k' ok).run P w = .ok v' w := by
  have ho := dKey_ok hq hd
  obtain ⟨ti, hti, hzv⟩ : ∃ i, P.info? e = some i ∧ i.zero = some z ∧ plainV z = true := by
    unfold zeroV at hz
    split at hz
    · rename_i i hi
      split at hz
      · rename_i z' hz'
        split at hz
        · cases hz; exact ⟨i, hi, hz', by assumption⟩
        · cases hz
      · cases hz
    · cases hz
  unfold mapGet at hx
  split at hx <;> try (cases hx; done)
  rename_i r
  split at hx <;> try (cases hx; done)
  rename_i l he
  split at hx <;> try (cases hx; done)
  rename_i hkk
  obtain ⟨p, hp, rfl⟩ := hv.inv_map
  rw [keyEq_exact hkk hy]
  obtain ⟨q, h3, hs, es, c, h4, hm⟩ := hH.live r _ he
  rw [hp] at h3; cases h3
  obtain ⟨F, hF0, hF1, hF⟩ := findKey_ex ho hkk
  have base : ∀ {r : Option (Nat × Value)}, (F es.toList 0).run P w = .ok r w → (Instr.lookup t (.map (some p.b)) k ok).run P w =
      (do let (v, o) ← (match r with
            | some (_, v) => pure (v, true)
            | none => do pure (← zeroValue e, false) : Sem (Value × Bool))
          pure (if ok then .tuple #[v, .bool o] else v) : Sem Value).run P w := fun {r} hr => by
    simp only [Instr.lookup, Sem.run_bind, run_underlying hu, Result.andThen_ok, run_getMap h4, Sem.run_pure, run_checkKey (m := k) ho hkk, hF _ _ _ hr]
    cases r <;> simp [run_zeroValue hti hzv.1]
  split at hx
  · rename_i v hfm
    rcases find_sound (P := P) (w := w) (.unk (.bool true)) 0 F (hF0 w) (hF1 w) l es.toList 0 _ hm hfm with ⟨j, u, u', e', h1, h2, h3, _⟩ | ⟨h1, h2, _⟩
    · cases h2
      exact ⟨_, _, hx, mapRet_rel ok true h3, by rw [base h1]; simp⟩
    · cases h2
  · rename_i hfm
    rcases find_sound (P := P) (w := w) (.unk (.bool true)) 0 F (hF0 w) (hF1 w) l es.toList 0 _ hm hfm with ⟨j, u, u', e', h1, h2, h3, _⟩ | ⟨h1, h2, _⟩
    · cases h2
    · exact ⟨_, _, hx, mapRet_rel ok false (plainV_rel φ hzv.2), by rw [base h1]; simp [run_zeroValue hti hzv.1]⟩
  · cases hx
theorem setM_find {ks : Option (List SK)} {k v : Value} : ∀ {l l' : List (Value × Value)}, setM ks k v l = some l' → ∃ r, findM ks k l = some r := by
  intro l
  induction l with
  | nil => intro l' h; exact ⟨none, rfl⟩
  | cons p r ih =>
    intro l' h
    simp only [setM, findM] at h ⊢
    cases hs : keyEqB ks k p.1 with
    | none => rw [hs] at h; cases h
    | some b =>
      cases b with
      | true => exact ⟨_, rfl⟩
      | false =>
        rw [hs] at h
        simp only at h
        cases h2 : setM ks k v r with
        | none => rw [h2] at h; cases h
        | some x => exact ih h2
theorem mapSet_sound {eqT : TypeId → Option (List SK)} (hq : ∀ t s, eqT t = some s → EqSpec P t s) (hH : HRel LB φ h w) {t kt e : TypeId} {ks : Option (List SK)} {x x' k k' v v' : Value} (hu : P.underlying t = some (.map kt e)) (hd : dKey P eqT kt = some ks)
    (hv : VRel φ x x') (hy : VRel φ k k') (hw : VRel φ v v') {f : H → R} (hx : mapSet ks x k v h f = some out) :
    ∃ g u, f g = some out ∧ Step LB φ h w φ g u ∧ (Instr.mapUpdate t x' k' v').run P w = .ok () u := by
  have ho := dKey_ok hq hd
  unfold mapSet at hx
  split at hx <;> try (cases hx; done)
  rename_i r
  split at hx <;> try (cases hx; done)
  rename_i l he
  split at hx <;> try (cases hx; done)
  rename_i hkk
  split at hx <;> try (cases hx; done)
  rename_i l1 hsm
  obtain ⟨p, hp, rfl⟩ := hv.inv_map
  rw [keyEq_exact hkk hy]
  obtain ⟨q, h3, hs, es, c, h4, hm⟩ := hH.live r _ he
  rw [hp] at h3; cases h3
  have hlt : p.b < w.heap.size := (Array.getElem?_eq_some_iff.1 h4).1
  have step : ∀ (es' : Array MapEntry) (c' : Nat), MpRel φ l1 es'.toList → Step LB φ h w φ { es := upd h.es r (.mp l1), nx := h.nx, low := Nat.min r h.low } { w with heap := w.heap.setIfInBounds p.b (.map es' c') } := fun es' c' hm' => by
    have hne : ∀ c, c ≠ p.b → ({ w with heap := w.heap.setIfInBounds p.b (.map es' c') } : World).heap[c]? = w.heap[c]? := fun c hc => Array.getElem?_setIfInBounds_ne (fun e => hc e.symm)
    exact ⟨hH.turn he hp hne ⟨hs, es', c', by simp [hlt], hm'⟩, ext_turn he rfl hp hne (by simp) rfl rfl rfl⟩
  have keep : (Instr.keyThatStays k k).run P w = .ok k w := by
    simp [Instr.keyThatStays, (keyEq_true hkk).2]
  obtain ⟨F, hF0, hF1, hF⟩ := findKey_ex ho hkk
  obtain ⟨r0, hfm⟩ := setM_find hsm
  rcases find_sound (P := P) (w := w) hw c F (hF0 w) (hF1 w) l es.toList 0 _ hm hfm with ⟨j, u, u', e', h1, h2, h3, h5, h6, l2, h7, h8⟩ | ⟨h1, h2, l2, h7, h8⟩
  · rw [hsm] at h7; cases h7
    refine ⟨_, _, hx, step (es.modify j fun e => { e with key := k, val := v' }) c (by simpa using h8), ?_⟩
    have h5' : es[j]? = some e' := by simpa using h5
    have h6' : e'.key = k := (keyEq_true h6).1.symm
    simp only [Instr.mapUpdate, Sem.run_bind, run_underlying hu, Result.andThen_ok, run_getMap h4, Sem.run_pure, run_checkKey (m := k) ho hkk, hF _ _ _ h1, Nat.zero_add, h5', Option.map_some, Option.getD_some, h6', keep, run_setMap h4]
  · rw [hsm] at h7; cases h7
    refine ⟨_, _, hx, step (es.push { key := k, val := v', born := c }) (c + 1) (by simpa using h8), ?_⟩
    simp only [Instr.mapUpdate, Sem.run_bind, run_underlying hu, Result.andThen_ok, run_getMap h4, Sem.run_pure, run_checkKey (m := k) ho hkk, hF _ _ _ h1, run_setMap h4]
end
end Go.Ev

namespace Go.Ev
open Go Go.Lib
noncomputable section
variable {P : Program} {LB : LBody} {φ : Phi} {h : H} {w : World} {out : Value} {f : Value → R}

theorem capL_sound {t e : TypeId} {ty : TypeId} {x x' : Value} (hu : P.underlying t = some (.slice e)) (hv : VRel φ x x') (hx : capL x f = some out) :
    ∃ v v', f v = some out ∧ VRel φ v v' ∧ (Builtin.cap_ #[t] ty #[x']).run P w = .ok v' w := by
  unfold capL at hx
  split at hx <;> try (cases hx; done)
  rename_i a n c
  split at hx
  · rename_i hc
    have hc : c % 2 = 0 := beq_true.1 hc
    have run : ∀ (a' : Option Addr) (n' c' : Nat), (Builtin.cap_ #[t] ty #[.slice a' n' c']).run P w = .ok (.int .i64 c') w := fun a' n' c' => by
      simp [Builtin.cap_, run_underlying hu, goInt]
    cases hv with
    | nilS => exact ⟨_, _, hx, .int _ _, run _ _ _⟩
    | sl h hk hn =>
      rcases hk with ⟨_, rfl⟩ | ⟨h, _⟩
      · exact ⟨_, _, hx, .int _ _, run _ _ _⟩
      · omega
    | sl0 h h0 hk =>
      rcases hk with ⟨_, rfl⟩ | ⟨h, _⟩
      · exact ⟨_, _, hx, .int _ _, run _ _ _⟩
      · omega
  · cases hx
theorem slData_sound {ts : Array TypeId} {ty : TypeId} {x x' : Value} (hv : VRel φ x x') (hx : slData x f = some out) :
    ∃ v v', f v = some out ∧ VRel φ v v' ∧ (Builtin.unsafeSliceData_ ts ty #[x']).run P w = .ok v' w := by
  unfold slData at hx
  split at hx
  · cases hv
    exact ⟨_, _, hx, .nilP, run_unsafeSliceData_nil _ _ _ _ _⟩
  · rename_i a n c
    split at hx
    · cases hx
    · rename_i hn
      have hn : n ≠ 0 := fun e => by rw [show Nat.beq n 0 = true from beq_true.2 e] at hn; cases hn
      cases hv with
      | sl h hk hle => exact ⟨_, _, hx, .ptr h, run_unsafeSliceData_row _ _ _ _ _ _ (by omega)⟩
      | sl0 h h0 hk => exact absurd rfl hn
  · cases hx
theorem toUn_sound (hH : HRel LB φ h w) {s d t : TypeId} {j : TypeInfo} {x x' : Value} (hs : P.underlying s = some (.pointer t)) (hd : P.underlying d = some .unsafePointer) (hj : P.info? t = some j) (h0 : j.size ≠ 0)
    (hv : VRel φ x x') (hx : toUn x h f = some out) : ∃ v v', f v = some out ∧ VRel φ v v' ∧ (convert s d x').run P w = .ok v' w := by
  unfold toUn at hx
  obtain ⟨b, off, rfl, hx1⟩ := addr_inv hx
  split at hx1 <;> try (cases hx1; done)
  rename_i c sz ro fl he
  split at hx1
  · rename_i hlt
    have hlt := blt_iff.1 hlt
    obtain ⟨p, cs, ty, fr, h1, rfl, h2, h3, _⟩ := ptr_cells hH hv he
    refine ⟨_, _, hx1, hv, ?_⟩
    exact run_to_unsafe w ⟨p.b, off + p.s, none⟩ hs hd hj h0 (e := ty) (cells := cs.size) (by simp [World.shape?, h2]) (by show off + p.s < cs.size; omega)
  · cases hx1
theorem lies_row {e : TypeId} (hc : P.cellsOf e ≠ 0) (count off n : Nat) (hr : off % P.cellsOf e = 0) (hn : off / P.cellsOf e + n ≤ count) : liesAt P P.depth e count off e n = true := by
  have hd : P.depth = (2 * (P.types.size + Made.depth) + 1) + 1 := rfl
  rw [hd]
  simp only [liesAt, Bool.or_eq_true]
  left
  rw [hd]
  simp [rowAt, hc, hn, hr, sameLayout]
theorem fromUn_sound (hH : HRel LB φ h w) {s d u : TypeId} {j : TypeInfo} {x x' : Value} (hs : P.underlying s = some .unsafePointer) (hd : P.underlying d = some (.pointer u)) (hj : P.info? u = some j) (hc : P.cellsOf u ≠ 0)
    (hv : VRel φ x x') (hx : fromUn u (P.cellsOf u) x h f = some out) : ∃ v v', f v = some out ∧ VRel φ v v' ∧ (convert s d x').run P w = .ok v' w := by
  unfold fromUn at hx
  obtain ⟨b, off, rfl, hx1⟩ := addr_inv hx
  split at hx1 <;> try (cases hx1; done)
  rename_i c sz ro fl he
  split at hx1 <;> try (cases hx1; done)
  rename_i hb
  split at hx1 <;> try (cases hx1; done)
  rename_i ty hty
  split at hx1 <;> try (cases hx1; done)
  rename_i htu
  simp only [Bool.and_eq_true] at hb
  obtain ⟨⟨b1, b2⟩, b3⟩ := hb
  rw [beq_true] at b2 b3 htu
  subst b2 b3 htu
  obtain ⟨p, cs, ty', fr, h1, rfl, h2, h3, h4, h5, _⟩ := ptr_cells hH hv he
  obtain ⟨q1, q2⟩ := h5.2.2 b1
  have q3 := (h5.2.1 _ hty).1
  subst q3
  refine ⟨_, _, hx1, hv, ?_⟩
  rw [q1]
  refine run_from_unsafe w ⟨p.b, 0, none⟩ hs hd hj (e := ty') (cells := cs.size) (by simp [World.shape?, h2]) ?_
  rw [q2, Nat.div_self (Nat.pos_of_ne_zero hc)]
  exact lies_row hc 1 0 1 (Nat.zero_mod _) (by simp)
/-- unsafe.String over bytes of a row -/
theorem run_unStr (pt it ty e : TypeId) (hp : P.underlying pt = some (.pointer e)) (hc : P.cellsOf e = 1) (g off cells : Nat) (hsh : w.shape? g = some (e, cells)) (l : List UInt8) (h0 : l.length ≠ 0) (hn : off + l.length ≤ cells) (h63 : l.length ≤ 9223372036854775807)
    (hcell : ∀ j x, l[j]? = some x → w.cell? ((⟨g, off, none⟩ : Addr).add j) = some (.int .u8 x.toNat)) :
    (Builtin.unsafeString_ #[pt, it] ty #[.pointer (some ⟨g, off, none⟩), .int .i64 l.length]).run P w = .ok (.string ⟨l.toArray⟩) (w.freeze ⟨g, off, none⟩ l.length) := by
  have hlb := run_loadBytes (P := P) w l ⟨g, off, none⟩ .empty hcell
  have hlies := lies_row (P := P) (e := e) (by omega) (cells / P.cellsOf e) off l.length (by rw [hc]; exact Nat.mod_one _) (by rw [hc]; simpa using hn)
  have h63' : ¬ (9223372036854775807 : Int) < (l.length : Int) := by omega
  have hmax : IntKind.i64.max = 9223372036854775807 := rfl
  have hneg : ¬ (l.length : Int) < 0 := by omega
  delta Builtin.unsafeString_ Builtin.unsafeString_.match_3 Builtin.unsafeString_._sparseCasesOn_3
  simp [Array.getLit, asInt, asIntOf, hmax, h63', hneg, h0, variablesAt, hsh, elemOf, run_underlying hp, hlies, hlb]
theorem asBytes_inv : ∀ {l : List Value} {bs : List UInt8}, asBytes l = some bs → l.length = bs.length ∧ ∀ (j : Nat) x, bs[j]? = some x → l[j]? = some (.int .u8 x.toNat) := by
  intro l
  induction l with
  | nil => intro bs h; cases h; exact ⟨rfl, fun j x h => by simp at h⟩
  | cons v r ih =>
    intro bs h
    rw [asBytes_cons] at h
    split at h <;> try (cases h; done)
    rename_i n
    split at h <;> try (cases h; done)
    rename_i hn
    have hn : n < 256 := blt_iff.1 hn
    cases hr : asBytes r with
    | none => rw [hr] at h; cases h
    | some l2 =>
      rw [hr] at h
      cases h
      obtain ⟨h1, h2⟩ := ih hr
      refine ⟨by simp [h1], fun j x hx => ?_⟩
      cases j with
      | zero =>
        simp at hx; subst hx
        have : (UInt8.ofNat n).toNat = n := by simp [UInt8.toNat_ofNat, Nat.mod_eq_of_lt hn]
        rw [this]; rfl
      | succ j => simpa using h2 j x (by simpa using hx)
theorem unStr_sound (hH : HRel LB φ h w) {pt it ty e : TypeId} (hp : P.underlying pt = some (.pointer e)) (hc : P.cellsOf e = 1) {x x' n n' : Value} (hv : VRel φ x x') (hn : VRel φ n n') {k : KV} (hx : unStr e x n h k = some out) :
    ∃ v v' g u, k v g = some out ∧ VRel φ v v' ∧ Step LB φ h w φ g u ∧ (Builtin.unsafeString_ #[pt, it] ty #[x', n']).run P w = .ok v' u := by
  unfold unStr at hx
  split at hx <;> try (cases hx; done)
  rename_i m
  rw [hn.inv_int]
  split at hx
  · rename_i h0
    have h0 : m = 0 := beq_true.1 h0
    subst h0
    split at hx <;> try (cases hx; done)
    cases hv with
    | nilP => exact ⟨_, _, _, w, hx, .str _, ⟨hH, Ext.refl _ _ _⟩, run_unsafeString_none w pt it ty none⟩
    | ptr h => exact ⟨_, _, _, w, hx, .str _, ⟨hH, Ext.refl _ _ _⟩, run_unsafeString_none w pt it ty _⟩
  · rename_i h0
    have h0 : m ≠ 0 := fun e => by rw [show Nat.beq m 0 = true from beq_true.2 e] at h0; cases h0
    split at hx <;> try (cases hx; done)
    rename_i h63
    have h63 : m ≤ 9223372036854775807 := ble_iff.1 h63
    obtain ⟨b, off, rfl, hx1⟩ := addr_inv hx
    split at hx1 <;> try (cases hx1; done)
    rename_i c s ro fl he
    split at hx1 <;> try (cases hx1; done)
    split at hx1 <;> try (cases hx1; done)
    rename_i t hty
    split at hx1 <;> try (cases hx1; done)
    rename_i hte
    rw [beq_true] at hte
    split at hx1 <;> try (cases hx1; done)
    rename_i l hl
    split at hx1 <;> try (cases hx1; done)
    rename_i bs hbs
    obtain ⟨p, cs, ty', fr, h1, rfl, h2, h3, h4, h5, h8⟩ := ptr_cells hH hv he
    obtain ⟨q0, q1, q2⟩ := h5
    obtain ⟨q3, q4⟩ := q1 _ hty
    have q3 : ty' = e := q3.trans hte
    obtain ⟨g1, g2⟩ := getN_spec c m off l hl
    obtain ⟨a1, a2⟩ := asBytes_inv hbs
    have hlen : bs.length = m := by omega
    have hin : ∀ j x, bs[j]? = some x → off + j < s ∧ cs[p.s + (off + j)]? = some (.int .u8 x.toNat) := fun j x hj => by
      have hjm : j < m := by have := (List.getElem?_eq_some_iff.1 hj).1; omega
      have hg := g2 j hjm
      rw [a2 j x hj] at hg
      obtain ⟨r1, _, v', r2, r3⟩ := h8 _ _ hg
      rw [r3.inv_int] at r2
      exact ⟨r1, r2⟩
    have hlt : p.b < w.heap.size := (Array.getElem?_eq_some_iff.1 h2).1
    have hroom : off + p.s + bs.length ≤ cs.size := by
      have hl0 : bs.length - 1 < bs.length := by omega
      have := (hin (bs.length - 1) _ (List.getElem?_eq_getElem hl0)).1
      omega
    have run := run_unStr (P := P) (w := w) pt it ty e hp hc p.b (off + p.s) cs.size (by simp [World.shape?, h2, q3]) bs (by omega) hroom (by omega) (fun j x hj => by
      obtain ⟨_, r⟩ := hin j x hj
      rw [add_none, cell_at h2, show off + p.s + j = p.s + (off + j) by omega]
      exact r)
    rw [hlen] at run
    have hfr : w.freeze ⟨p.b, off + p.s, none⟩ m = { w with heap := w.heap.modify p.b fun
        | .cells c elem (lo, hi) => .cells c elem (if lo == hi then (off + p.s, off + p.s + m) else (min lo (off + p.s), max hi (off + p.s + m)))
        | o => o } := by
      unfold World.freeze
      rw [if_neg h0]
      congr 2
    obtain ⟨lo, hi⟩ := fr
    have hat : (w.freeze ⟨p.b, off + p.s, none⟩ m).heap[p.b]? = some (.cells cs ty' (if lo == hi then (off + p.s, off + p.s + m) else (min lo (off + p.s), max hi (off + p.s + m)))) := by
      rw [hfr]
      simp only [Array.getElem?_modify, h2, if_true]
      rfl
    have hout : ∀ c, c ≠ p.b → (w.freeze ⟨p.b, off + p.s, none⟩ m).heap[c]? = w.heap[c]? := fun c hne => by
      rw [hfr]
      simp only [Array.getElem?_modify]
      rw [if_neg (fun e => hne e.symm)]
    have hsz : (w.freeze ⟨p.b, off + p.s, none⟩ m).heap.size = w.heap.size := by rw [hfr]; simp
    have hfin : ∀ fr' : Nat × Nat, fr' = (if lo == hi then (off + p.s, off + p.s + m) else (min lo (off + p.s), max hi (off + p.s + m))) → fr'.2 ≤ p.s + Nat.max fl.fz (off + m) := fun fr' e => by
      subst e
      have m1 : off + m ≤ Nat.max fl.fz (off + m) := Nat.le_max_right _ _
      have m2 : fl.fz ≤ Nat.max fl.fz (off + m) := Nat.le_max_left _ _
      split
      · show off + p.s + m ≤ _; omega
      · show max hi (off + p.s + m) ≤ _
        refine Nat.max_le.2 ⟨?_, by omega⟩
        rcases q4 with h | ⟨_, h⟩
        · have h : hi = 0 := h; omega
        · have h : hi ≤ p.s + fl.fz := h; omega
    have hne : Nat.max fl.fz (off + m) ≠ 0 := by
      have m1 : off + m ≤ Nat.max fl.fz (off + m) := Nat.le_max_right _ _
      omega
    refine ⟨_, _, _, _, hx1, .str _, ⟨hH.turn he h1 hout ?_, ext_turn he rfl h1 hout hsz (by rw [hfr]) (by rw [hfr]) (by rw [hfr])⟩, run⟩
    refine ⟨cs, ty', _, hat, h3, h4, ⟨fun _ i hi' hisz => ?_, fun ty hty' => ?_, fun hex => q2 hex⟩, h8⟩
    · have := hfin _ rfl
      rcases hi' with hi' | hi'
      · exact absurd hi' hne
      · have hi' : p.s + Nat.max fl.fz (off + m) ≤ i := hi'
        omega
    · exact ⟨(q1 ty hty').1, .inr ⟨hne, hfin _ rfl⟩⟩
end
end Go.Ev

namespace Go.Ev
open Go
noncomputable section

section
variable {P : Program} {LB : LBody} {φ : Phi} {h : H} {w : World} {f : Value → R} {out : Value} {env : Env} {a : Act} {eqT : TypeId → Option (List SK)}

theorem map_inv {α β : Type} {o : Option α} {g : α → β} {b : β} (hd : o.map g = some b) : ∃ x, o = some x ∧ g x = b := by
  cases o with
  | none => cases hd
  | some x => exact ⟨x, rfl, by simpa using hd⟩
theorem pick_sound {c x y c' x' y' : Value} (h1 : VRel φ c c') (h2 : VRel φ x x') (h3 : VRel φ y y') (hx : pick c x y f = some out) :
    ∃ b, c' = .bool b ∧ f (if b then x else y) = some out ∧ VRel φ (if b then x else y) (if b then x' else y') := by
  unfold pick at hx
  split at hx
  · exact ⟨true, h1.inv_bool, hx, h2⟩
  · exact ⟨false, h1.inv_bool, hx, h3⟩
  · cases hx

theorem d1_sound (hH : HRel LB φ h w) (hG : GRel P φ) (hE : LRel φ env a.tmps.toList) (hq : ∀ t s, eqT t = some s → EqSpec P t s) {i : L1} {dst : Option Tmp} {op : Op} {ty : TypeId} {pos : String} {af : Array Edge} {gd : Option (Nat × Bool)}
    (hd : d1 P eqT op = some i) (hx : ev1 i env h f = some out) : ∃ v v', f v = some out ∧ VRel φ v v' ∧ (execOp a.eval { dst, op, type := ty, pos, after := af, guard := gd }).run P w = .ok (.value v') w := by
  have lift : ∀ {s : Sem Value}, (∃ v v', f v = some out ∧ VRel φ v v' ∧ s.run P w = .ok v' w) → ∃ v v', f v = some out ∧ VRel φ v v' ∧ ((do pure (Next.value (← s)) : Sem Next)).run P w = .ok (.value v') w :=
    fun ⟨v, v', h1, h2, h3⟩ => ⟨v, v', h1, h2, val_run h3⟩
  cases op <;> simp only [d1] at hd <;> try (cases hd; done)
  case move x =>
    obtain ⟨y, hy, rfl⟩ := map_inv hd
    exact ⟨_, _, hx, ev_rel hG hE hy, rfl⟩
  case assign x =>
    obtain ⟨y, hy, rfl⟩ := map_inv hd
    exact ⟨_, _, hx, ev_rel hG hE hy, rfl⟩
  case pick c x y =>
    split at hd <;> cases hd
    rename_i h1 h2 h3
    obtain ⟨b, e1, e2, e3⟩ := pick_sound (ev_rel hG hE h1) (ev_rel hG hE h2) (ev_rel hG hE h3) hx
    exact ⟨_, _, e2, e3, by simp [execOp, e1, asBool]⟩
  case build t ps =>
    split at hd
    · rename_i zs fs hz hu
      split at hd <;> cases hd
      rename_i l pl hl hp
      refine lift (s := Instr.build t (ps.map fun (i, x) => (i, a.eval x))) (build_sound (place := (pl.toArray[·]?)) hz (fun z cells hzz hc => ?_) (by simpa using partsS_rel hG hE hp hl) hx)
      unfold Program.built
      cases hi : P.info? t with
      | none => rw [hi] at hzz; cases hzz
      | some it =>
        rw [hi] at hzz
        have hzz : it.zero = some z := hzz
        simp only [hu, hzz, hp]
        exact hc
    · rename_i zs n e hz hu
      split at hd
      · rename_i ie hie
        split at hd <;> cases hd
        rename_i l hl
        refine lift (s := Instr.build t (ps.map fun (i, x) => (i, a.eval x))) (build_sound (place := fun j => some (j * ie.size, ie.size)) hz (fun z cells hzz hc => ?_) (by simpa using partsA_rel hG hE hl) hx)
        unfold Program.built
        cases hi : P.info? t with
        | none => rw [hi] at hzz; cases hzz
        | some it =>
          rw [hi] at hzz
          have hzz : it.zero = some z := hzz
          simp only [hu, hzz, hie]
          exact hc
      · cases hd
    · cases hd
  case load t x =>
    split at hd <;> cases hd
    rename_i h1 h2
    exact lift (load_sound hH h1 (ev_rel hG hE h2) hx)
  case nilCheck x =>
    obtain ⟨y, hy, rfl⟩ := map_inv hd
    obtain ⟨h1, h2⟩ := nilCheck_sound (P := P) (w := w) (dst := dst) (ty := ty) (pos := pos) (af := af) (gd := gd) (ev_rel hG hE hy) hx rfl
    exact ⟨_, _, h1, ev_rel hG hE hy, h2⟩
  case binOp op t x y yt =>
    split at hd
    · rename_i x' y' h1 h2
      have r1 := ev_rel hG hE h1
      have r2 := ev_rel hG hE h2
      have plain : ∀ op', op = op' → (op' ≠ .eql) → (op' ≠ .neq) → i = .bin op' x' y' → ∃ v v', f v = some out ∧ VRel φ v v' ∧ (execOp a.eval { dst, op := .binOp op t x y yt, type := ty, pos, after := af, guard := gd }).run P w = .ok (.value v') w := fun op' e n1 n2 ei => by
        subst e ei
        obtain ⟨v, e1, e2, e3⟩ := bin_sound (P := P) t hx
        refine ⟨v, v, e1, e2 φ, ?_⟩
        have := e3 φ _ _ r1 r2 w
        have hg : (eqGuard op t x y (a.eval x) (a.eval y)).run P w = .ok () w := by
          cases op <;> first
            | exact absurd rfl n1
            | exact absurd rfl n2
            | simp [eqGuard]
        simp [execOp, hg, this]
      have equal : ∀ {b : Bool}, (∀ op, (eqGuard op t x y (a.eval x) (a.eval y)).run P w = .ok () w) → ∀ {o : BinOp}, (binOp o t (a.eval x) (a.eval y)).run P w = .ok (.bool b) w → f (.bool b) = some out → op = o →
          ∃ v v', f v = some out ∧ VRel φ v v' ∧ (execOp a.eval { dst, op := .binOp op t x y yt, type := ty, pos, after := af, guard := gd }).run P w = .ok (.value v') w := fun {b} hg {o} hb hf e => by
        subst e
        exact ⟨_, _, hf, .bool b, by simp [execOp, hg, hb]⟩
      cases op <;> simp only at hd <;> try exact plain _ rfl (by simp) (by simp) (by cases hd; rfl)
      case eql =>
        split at hd
        · rename_i kd hk
          split at hd <;> cases hd
          · rename_i hc
            obtain ⟨b, e1, e2, e3, e4⟩ := eqV_sound (P := P) (w := w) (xo := x) (yo := y) (g := fun b => f (.bool b)) hk (fun e => by subst e; simpa [kdOk] using hc) r1 r2 (by simpa only [ev1, opEql] using hx)
            exact equal e2 e3 e1 rfl
          · rename_i hc
            have hkd : kd = .iface := by cases kd <;> simp [kdOk] at hc <;> rfl
            subst hkd
            obtain ⟨b, e1, e2, e3, e4⟩ := eqVT_sound (P := P) (w := w) (xo := x) (yo := y) (g := fun b => f (.bool b)) hk tsOf_ok r1 r2 (by simpa only [ev1, opEql] using hx)
            exact equal e2 e3 e1 rfl
        · split at hd <;> cases hd
          rename_i hc
          obtain ⟨b, e1, e2, e3, e4⟩ := aggEq_sound (w := w) (xo := x) (yo := y) (hq t _ hc) r1 r2 hx
          exact equal e2 e3 e1 rfl
      case neq =>
        split at hd
        · rename_i kd hk
          split at hd <;> cases hd
          · rename_i hc
            obtain ⟨b, e1, e2, e3, e4⟩ := eqV_sound (P := P) (w := w) (xo := x) (yo := y) (g := fun b => f (.bool (!b))) hk (fun e => by subst e; simpa [kdOk] using hc) r1 r2 (by simpa only [ev1, opNeq] using hx)
            exact equal e2 e4 e1 rfl
          · rename_i hc
            have hkd : kd = .iface := by cases kd <;> simp [kdOk] at hc <;> rfl
            subst hkd
            obtain ⟨b, e1, e2, e3, e4⟩ := eqVT_sound (P := P) (w := w) (xo := x) (yo := y) (g := fun b => f (.bool (!b))) hk tsOf_ok r1 r2 (by simpa only [ev1, opNeq] using hx)
            exact equal e2 e4 e1 rfl
        · split at hd <;> cases hd
          rename_i hc
          obtain ⟨b, e1, e2, e3, e4⟩ := aggEq_sound (w := w) (xo := x) (yo := y) (hq t _ hc) r1 r2 hx
          exact equal e2 e4 e1 rfl
    · cases hd
  case unOp op xt x =>
    obtain ⟨y, hy, rfl⟩ := map_inv hd
    obtain ⟨v, e1, e2, e3⟩ := un_sound (P := P) hx
    exact ⟨v, v, e1, e2 φ, by simp [execOp, e3 φ _ (ev_rel hG hE hy) w]⟩
  case convert s d x =>
    split at hd
    · cases hd
      rename_i h1 h2 h3
      exact lift (convI_sound h2 h3 (ev_rel hG hE h1) hx)
    · split at hd <;> cases hd
      rename_i h1 h2 h3 _ h4
      exact lift (bytesStr_sound hH h2 h4 h3 (ev_rel hG hE h1) hx)
    · cases hd
      rename_i h1 h2 h3
      exact lift (convS_sound h2 h3 (ev_rel hG hE h1) hx)
    · rename_i h1 h2 h3
      split at hd <;> try (cases hd; done)
      rename_i j hj
      split at hd <;> cases hd
      rename_i h0
      exact lift (s := convert s d (a.eval x)) (toUn_sound hH h2 h3 hj h0 (ev_rel hG hE h1) hx)
    · rename_i h1 h2 h3
      split at hd <;> try (cases hd; done)
      rename_i j hj
      split at hd <;> cases hd
      rename_i h0
      exact lift (s := convert s d (a.eval x)) (fromUn_sound hH h2 h3 hj h0 (ev_rel hG hE h1) hx)
    · cases hd
  case makeInterface t x =>
    split at hd
    · rename_i x' d h1 h2
      split at hd <;> cases hd
      rename_i hn
      exact lift (mkIface_sound h2 (fun m e => hn m e) (ev_rel hG hE h1) hx)
    · cases hd
  case makeFunc fn first cap =>
    cases fn <;> simp only at hd <;> try (cases hd; done)
    split at hd <;> cases hd
    rename_i h1 h2
    have r1 := evs_rel hG hE h1
    have r2 := evs_rel hG hE h2
    refine ⟨_, .func (.func ‹_›) (first.map a.eval) (cap.map a.eval), hx, ?_, by simp [execOp, Instr.makeFunc]⟩
    have e1 : first.map a.eval = ⟨first.toList.map a.eval⟩ := by apply Array.ext'; simp
    have e2 : cap.map a.eval = ⟨cap.toList.map a.eval⟩ := by apply Array.ext'; simp
    rw [e1, e2]
    exact .fn _ r1.1 r1.2 r2.1 r2.2
  case slice t x l hh m =>
    split at hd
    · rename_i x' l' h' m' h1 h2 h3 h4
      split at hd
      · cases hd
      · rename_i hm
        have r1 := ev_rel hG hE h1
        have hmm : evo env m' ≠ none → evo env h' ≠ none := fun e1 e2 => by
          cases m' with
          | none => exact e1 rfl
          | some _ => cases h' with
            | none => simp at hm
            | some _ => cases e2
        split at hd
        · rename_i hu
          split at hd <;> cases hd
          rename_i hms
          have hm0 : m = none := by
            cases m with
            | none => rfl
            | some z => simp only [dOpdO] at h4; obtain ⟨q, _, rfl⟩ := map_inv h4; simp at hms
          subst hm0
          exact lift (sliceStr_sound hu r1 (orel_of hG hE h2) (orel_of hG hE h3) hx)
        · rename_i e hu
          split at hd <;> cases hd
          rename_i hi
          exact lift (sliceSl_sound hu hi r1 (orel_of hG hE h2) (orel_of hG hE h3) (orel_of hG hE h4) hmm hx)
        · rename_i n e hu
          split at hd <;> cases hd
          rename_i hi
          exact lift (sliceArr_sound hu hi r1 (orel_of hG hE h2) (orel_of hG hE h3) (orel_of hG hE h4) hmm hx)
        · cases hd
    · cases hd
  case fieldAddr s x n =>
    split at hd
    · rename_i x' fs h1 hu
      split at hd
      · rename_i fl hf
        split at hd
        · split at hd <;> cases hd
          rename_i ti hi hz
          exact lift (fieldAddr_sound hu hf hi hz (ev_rel hG hE h1) hx)
        · cases hd
      · cases hd
    · cases hd
  case field s x n =>
    split at hd
    · rename_i x' fs h1 hu
      split at hd
      · rename_i fl hf
        split at hd <;> cases hd
        rename_i hs
        exact lift (field_sound hu hf hs (ev_rel hG hE h1) hx)
      · cases hd
    · cases hd
  case indexAddr t x n =>
    split at hd
    · rename_i h1 h2 hu
      split at hd <;> cases hd
      rename_i hi
      exact lift (idxAddrS_sound hu hi (ev_rel hG hE h1) (ev_rel hG hE h2) hx)
    · rename_i h1 h2 hu
      split at hd <;> cases hd
      rename_i hi
      exact lift (idxAddrA_sound hu hi (ev_rel hG hE h1) (ev_rel hG hE h2) hx)
    · cases hd
  case index t x n =>
    split at hd
    · cases hd
      rename_i h1 h2 hu
      exact lift (idxStr_sound hu (ev_rel hG hE h1) (ev_rel hG hE h2) hx)
    · rename_i h1 h2 hu
      split at hd <;> cases hd
      rename_i hi hs
      exact lift (idxA_sound hu hi hs (ev_rel hG hE h1) (ev_rel hG hE h2) hx)
    · cases hd
  case extract x n =>
    obtain ⟨y, hy, rfl⟩ := map_inv hd
    exact lift (extract_sound (ev_rel hG hE hy) hx)
  case typeAssert x xt t ok =>
    split at hd
    · rename_i x' d ti h1 h2 h3
      split at hd
      · cases hd
      · rename_i hn hz
        split at hd <;> cases hd
        rename_i hp
        exact lift (typeAssert_sound h2 (fun m e => hn m e) h3 hz hp (ev_rel hG hE h1) hx)
      · cases hd
    · cases hd
  case call c =>
    obtain ⟨callee, args, argTypes⟩ := c
    simp only at hd
    split at hd
    · -- len
      split at hd
      · rename_i t x hat har
        have e1 : argTypes = #[t] := by apply Array.ext'; exact hat
        have e2 : args = #[x] := by apply Array.ext'; exact har
        subst e1 e2
        have bl : ∀ {v v' : Value}, f v = some out → VRel φ v v' → (Builtin.len_ #[t] ty #[a.eval x]).run P w = .ok v' w → ∃ v v', f v = some out ∧ VRel φ v v' ∧ (execOp a.eval { dst, op := .call { callee := .builtin .len, args := #[x], argTypes := #[t] }, type := ty, pos, after := af, guard := gd }).run P w = .ok (.value v') w := fun {v v'} h1 h2 h3 =>
          ⟨v, v', h1, h2, by simp [execOp, resolve, invoke, builtin, h3]⟩
        split at hd <;> try (cases hd; done)
        · rename_i hu hy
          cases hd
          obtain ⟨v, v', h1, h2, h3⟩ := lenS_sound (rt := ty) hu (ev_rel hG hE hy) hx
          exact bl h1 h2 h3
        · rename_i hu hy
          cases hd
          obtain ⟨v, v', h1, h2, h3⟩ := lenL_sound (rt := ty) hu (ev_rel hG hE hy) hx
          exact bl h1 h2 h3
        · rename_i hu hy
          cases hd
          exact bl hx (.int _ _) (by simp [Builtin.len_, run_underlying hu, goInt])
        · rename_i e _ hu hy
          split at hd <;> cases hd
          rename_i hu2
          exact bl hx (.int _ _) (by simp [Builtin.len_, run_underlying hu, run_underlying hu2, goInt])
      · cases hd
    · -- cap
      split at hd
      · rename_i t x hts hxs
        have e1 : argTypes = #[t] := by apply Array.ext'; simpa using hts
        have e2 : args = #[x] := by apply Array.ext'; simpa using hxs
        subst e1 e2
        split at hd <;> cases hd
        rename_i hu hy
        obtain ⟨v, v', h1, h2, h3⟩ := capL_sound (P := P) (w := w) (ty := ty) hu (ev_rel hG hE hy) hx
        exact ⟨v, v', h1, h2, by simp [execOp, resolve, invoke, builtin, h3]⟩
      · cases hd
    · -- unsafe.SliceData
      split at hd
      · rename_i x hxs
        have e2 : args = #[x] := by apply Array.ext'; simpa using hxs
        subst e2
        obtain ⟨y, hy, rfl⟩ := map_inv hd
        obtain ⟨v, v', h1, h2, h3⟩ := slData_sound (P := P) (w := w) (ts := argTypes) (ty := ty) (ev_rel hG hE hy) hx
        exact ⟨v, v', h1, h2, by simp [execOp, resolve, invoke, builtin, h3]⟩
      · cases hd
    · -- max
      split at hd <;> cases hd
      rename_i x xs hy
      have r := evs_rel hG hE hy
      cases ha : args.toList with
      | nil => rw [ha] at r; have := r.1; simp [evs_nil, evs_cons] at this
      | cons z zs =>
        rw [ha] at r
        obtain ⟨v', r', e, r1, r2⟩ := r.uncons
        simp at e
        obtain ⟨rfl, rfl⟩ := e
        obtain ⟨v, v', h1, h2, h3⟩ := fold_sound (P := P) (w := w) (g' := Builtin.max2) (fun k a b a' b' q1 q2 q3 => max2_sound q1 q2 q3) _ _ _ _ r2 r1 hx
        refine ⟨v, v', h1, h2, ?_⟩
        simp [execOp, resolve, invoke, builtin, Builtin.max_, ha, h3]
    · -- min
      split at hd <;> cases hd
      rename_i x xs hy
      have r := evs_rel hG hE hy
      cases ha : args.toList with
      | nil => rw [ha] at r; have := r.1; simp [evs_nil, evs_cons] at this
      | cons z zs =>
        rw [ha] at r
        obtain ⟨v', r', e, r1, r2⟩ := r.uncons
        simp at e
        obtain ⟨rfl, rfl⟩ := e
        obtain ⟨v, v', h1, h2, h3⟩ := fold_sound (P := P) (w := w) (g' := Builtin.min2) (fun k a b a' b' q1 q2 q3 => min2_sound q1 q2 q3) _ _ _ _ r2 r1 hx
        refine ⟨v, v', h1, h2, ?_⟩
        simp [execOp, resolve, invoke, builtin, Builtin.min_, ha, h3]
    · cases hd
end
end
end Go.Ev

namespace Go.Ev
open Go
noncomputable section

section
variable {P : Program} {LB : LBody} {φ : Phi} {h : H} {w : World} {f : Value → R} {out : Value} {env : Env} {a : Act}

theorem d2_sound (hH : HRel LB φ h w) (hG : GRel P φ) (hE : LRel φ env a.tmps.toList) {i : L2} {dst : Option Tmp} {op : Op} {ty : TypeId} {pos : String} {af : Array Edge} {gd : Option (Nat × Bool)} {k : KV}
    (hd : d2 P op = some i) (hx : ev2 i env h k = some out) : ∃ v v' g ψ u, k v g = some out ∧ VRel ψ v v' ∧ Step LB φ h w ψ g u ∧ (execOp a.eval { dst, op, type := ty, pos, after := af, guard := gd }).run P w = .ok (.value v') u := by
  have lift : ∀ {s : Sem Value}, (∃ v v' g ψ u, k v g = some out ∧ VRel ψ v v' ∧ Step LB φ h w ψ g u ∧ s.run P w = .ok v' u) →
      ∃ v v' g ψ u, k v g = some out ∧ VRel ψ v v' ∧ Step LB φ h w ψ g u ∧ ((do pure (Next.value (← s)) : Sem Next)).run P w = .ok (.value v') u :=
    fun ⟨v, v', g, ψ, u, h1, h2, h3, h4⟩ => ⟨v, v', g, ψ, u, h1, h2, h3, val_run h4⟩
  cases op <;> simp only [d2] at hd <;> try (cases hd; done)
  case alloc t =>
    obtain ⟨y, hy, rfl⟩ := map_inv hd
    exact lift (alloc_sound hH hy (fun _ h => by cases h; rfl) hx)
  case box t x =>
    obtain ⟨y, hy, rfl⟩ := map_inv hd
    exact lift (box_sound hH (ev_rel hG hE hy) hx)
  case buildSlice t n ps =>
    split at hd
    · rename_i e hu
      split at hd
      · rename_i ti zs he hz
        obtain ⟨h1, h2, h3⟩ := elemI_inv he
        split at hd
        · rename_i hn
          split at hd <;> cases hd
          rename_i l hl
          have hx' : buildSlice n (repL zs n) (evp env l) h k = some out := hx
          have hp : PRel φ (fun j => some (j * ti.size, ti.size)) (evp env l) (ps.map fun (x : Nat × Operand) => (x.1, a.eval x.2)).toList := by simpa using partsA_rel hG hE hl
          exact lift (buildSlice_sound hH hu hz h1 h2 hn hp hx')
        · cases hd
      · cases hd
    · cases hd
  case makeSlice t l c =>
    split at hd
    · rename_i e l' c' hu h1 h2
      split at hd <;> cases hd
      rename_i ti zs he hz
      obtain ⟨h3, h4, h5⟩ := elemI_inv he
      have hx' : makeSlice e zs ti.bytes (ev env l') (ev env c') h k = some out := hx
      exact lift (makeSlice_sound hH hu hz h3 h4 (ev_rel hG hE h1) (ev_rel hG hE h2) hx')
    · cases hd
  case convert s d x =>
    split at hd
    · rename_i x' e h1 h2 h3
      split at hd <;> cases hd
      rename_i h4
      exact lift (strBytes_sound hH h2 h3 h4 (ev_rel hG hE h1) hx)
    · cases hd
  case range t x =>
    split at hd <;> cases hd
    rename_i h1 h2
    exact lift (rangeStr_sound hH h1 (ev_rel hG hE h2) hx)
end
end
end Go.Ev

namespace Go.Ev
open Go
noncomputable section

/-- the widest fence, within a round or not -/
def fen (ro : Option Nat) : Fence := { Fence.wide with round := ro }
theorem callsIn_fen {ro : Option Nat} {n : Nat} {P : Program} {f : FuncId} {args : Array Value} {w : World} {R : Ending → World → Prop} : CallsIn (fen ro) n P f args w R = CallsIn Fence.wide n P f args w R := rfl
theorem roundIn_fen {ro : Option Nat} {n : Nat} {P : Program} {l : Nat} {f : FuncId} {ts : Array Value} {x y : Code} {w : World} {R : Ending → World → Prop} : RoundIn (fen ro) n P l f ts x y w R = RoundIn Fence.wide n P l f ts x y w R := rfl

/-- what a call leads to -/
def Leads (P : Program) (r : Result Next) (nv : Value → World → Prop) (pn : List PanicEntry → World → Prop) : Prop := match r with
  | .ok (.value v) u => nv v u
  | .ok (.enter f args) u => CallsIn Fence.wide 0 P f args u fun
    | .returned v, w => nv v w
    | .panicked ch, w => pn ch w
    | .outgrown, _ => False
  | .ok (.round l f ts x y) u => RoundIn Fence.wide 0 P l f ts x y u fun
    | .returned v, w => nv v w
    | .panicked ch, w => pn ch w
    | .outgrown, _ => False
  | _ => False
theorem Leads.mono {P : Program} {r : Result Next} {nv nv' : Value → World → Prop} {pn pn' : List PanicEntry → World → Prop} (h : Leads P r nv pn) (h1 : ∀ v u, nv v u → nv' v u) (h2 : ∀ c u, pn c u → pn' c u) : Leads P r nv' pn' := by
  unfold Leads at h ⊢
  split at h
  · exact h1 _ _ h
  · exact h.mono fun e w' k => by cases e with
      | returned v => exact h1 _ _ k
      | panicked c => exact h2 _ _ k
      | outgrown => exact k
  · exact h.mono fun e w' k => by cases e with
      | returned v => exact h1 _ _ k
      | panicked c => exact h2 _ _ k
      | outgrown => exact k
  · exact h.elim

section
variable {P : Program} {ro : Option Nat} {o : Oper} {a : Act} {w : World} {next : Act → World → Prop} {Q : Exit → Act → World → Prop}
theorem wp_of_leads (hs : o.semAt ro a.eval = execOp a.eval o)
    (h : Leads P ((execOp a.eval o).run P w) (fun v u => next (a.put o.dst v) u) (fun c u => Q (.panic c) a u)) : o.wpIn (fen ro) 0 P a w next Q := by
  refine ⟨fun _ _ => trivial, ?_⟩
  show o.uponIn (fen ro) 0 P a next Q ((o.semAt ro a.eval).run P w)
  rw [hs]
  generalize (execOp a.eval o).run P w = r at h
  unfold Leads at h
  split at h
  · exact h
  · refine ⟨fun k => (by cases k), ?_⟩
    show CallsIn Fence.wide 0 P _ _ _ _
    exact h.mono fun e w' k => by cases e with
      | returned v => exact k
      | panicked c => exact k
      | outgrown => exact k.elim
  · refine ⟨fun k => (by cases k), ?_⟩
    show RoundIn Fence.wide 0 P _ _ _ _ _ _ _
    exact h.mono fun e w' k => by cases e with
      | returned v => exact k
      | panicked c => exact k
      | outgrown => exact k.elim
  · exact h.elim
theorem wp_of_value (hs : o.semAt ro a.eval = execOp a.eval o) {v : Value} {u : World}
    (h : (execOp a.eval o).run P w = .ok (.value v) u) (k : next (a.put o.dst v) u) : o.wpIn (fen ro) 0 P a w next Q :=
  wp_of_leads hs (by rw [h]; exact k)
theorem wp_of_skip (hs : o.semAt ro a.eval = execOp a.eval o) {u : World}
    (h : (execOp a.eval o).run P w = .ok .skip u) (k : next (a.put o.dst undef) u) : o.wpIn (fen ro) 0 P a w next Q := by
  refine ⟨fun _ _ => trivial, ?_⟩
  show o.uponIn (fen ro) 0 P a next Q ((o.semAt ro a.eval).run P w)
  rw [hs, h]; exact k
theorem wp_of_panic (hs : o.semAt ro a.eval = execOp a.eval o) {v : Value} {u : World}
    (h : (execOp a.eval o).run P w = .halt (.panic v) u) (k : Q (.panic [{ v, recovered := false }]) a u) : o.wpIn (fen ro) 0 P a w next Q := by
  refine ⟨fun _ _ => trivial, ?_⟩
  show o.uponIn (fen ro) 0 P a next Q ((o.semAt ro a.eval).run P w)
  rw [hs, h]; exact k
theorem wp_of_defer (hs : o.semAt ro a.eval = execOp a.eval o) {d : Deferred} {u : World}
    (h : (execOp a.eval o).run P w = .ok (.defer d) u) (k : next ({ a with defers := d :: a.defers }.put o.dst undef) u) : o.wpIn (fen ro) 0 P a w next Q := by
  refine ⟨fun _ _ => trivial, ?_⟩
  show o.uponIn (fen ro) 0 P a next Q ((o.semAt ro a.eval).run P w)
  rw [hs, h]; exact k
end

/-! ### Deferred calls -/
def DfRel (φ : Phi) : Df → Deferred → Prop
  | .fn f as, d => ∃ cap, d.target = .fn (.func f) cap ∧ LRel φ as (d.args.toList ++ cap.toList)
  | .coll l, d => ∃ p, φ l = some p ∧ d = { target := .collected p.b, args := #[] }
def DRel (φ : Phi) : D → List Deferred → Prop
  | [], [] => True
  | e :: r, e' :: r' => DfRel φ e e' ∧ DRel φ r r'
  | _, _ => False
theorem DfRel.mono {φ ψ : Phi} (hle : φ.le ψ) {e : Df} {d : Deferred} (h : DfRel φ e d) : DfRel ψ e d := by
  cases e with
  | fn f as => obtain ⟨c, h1, h2⟩ := h; exact ⟨c, h1, h2.mono hle⟩
  | coll l => obtain ⟨p, h1, h2⟩ := h; exact ⟨p, hle _ _ h1, h2⟩
theorem DRel.mono {φ ψ : Phi} (hle : φ.le ψ) {l : D} : ∀ {m : List Deferred}, DRel φ l m → DRel ψ l m := by
  induction l with
  | nil => intro m h; cases m with
    | nil => trivial
    | cons _ _ => exact h.elim
  | cons e r ih => intro m h; cases m with
    | nil => exact h.elim
    | cons _ _ => exact ⟨h.1.mono hle, ih h.2⟩

/-! ### What is asked of the calls -/
def semT (φ : Phi) : T → Array Value → Sem Next → Prop
  | .fn f, as, s => s = callFunc f as
  | .yield l, as, s => ∃ p, φ l = some p ∧ s = Instr.yield p.b as
def CallOK (P : Program) (LB : LBody) (call : Call) : Prop := ∀ (φ : Phi) (h : H) (w : World) (t : T) (args : List Value) (args' : Array Value) (kR kP : KV) (out : Value) (s : Sem Next),
  HRel LB φ h w → GRel P φ → LRel φ args args'.toList → semT φ t args' s → call t args h kR kP = some out →
  Leads P (s.run P w) (fun v' u => ∃ v g ψ, kR v g = some out ∧ VRel ψ v v' ∧ Step LB φ h w ψ g u)
    (fun c u => ∃ v v' g ψ, kP v g = some out ∧ c = [{ v := v', recovered := false }] ∧ VRel ψ v v' ∧ Step LB φ h w ψ g u)

section
variable {P : Program} {LB : LBody} {φ : Phi} {h : H} {w : World} {out : Value} {env : Env} {a : Act} {ro : Option Nat} {call : Call}

theorem callV_sound (hC : CallOK P LB call) (hH : HRel LB φ h w) (hG : GRel P φ) {x x' : Value} {args args' : List Value} (hv : VRel φ x x') (ha : LRel φ args args') {kR kP : KV} (hx : callV call x args h kR kP = some out) :
    ∃ d, (Deferred.ofValue x' args'.toArray).run P w = .ok d w ∧ Leads P ((invoke d.target d.args).run P w) (fun v' u => ∃ v g ψ, kR v g = some out ∧ VRel ψ v v' ∧ Step LB φ h w ψ g u)
      (fun c u => ∃ v v' g ψ, kP v g = some out ∧ c = [{ v := v', recovered := false }] ∧ VRel ψ v v' ∧ Step LB φ h w ψ g u) := by
  unfold callV at hx
  split at hx
  · rename_i f first cap
    cases hv with
    | fn _ h1 h2 h3 h4 =>
      rename_i l m' l' m
      refine ⟨_, rfl, ?_⟩
      refine hC φ h w (.fn f) _ _ kR kP out _ hH hG ?_ rfl hx
      simpa using (LRel.append (LRel.append ⟨h1, h2⟩ ha) ⟨h3, h4⟩)
  · rename_i l first cap
    split at hx
    · cases hv with
      | yield hp =>
        refine ⟨_, rfl, ?_⟩
        refine hC φ h w (.yield l) _ _ kR kP out _ hH hG ?_ ⟨_, hp, rfl⟩ hx
        simpa using ha
    · cases hx
  · cases hx

theorem ofValue_df {f : FuncId} {first cap : Array Value} {x' : Value} {args : List Value} {args' : Array Value} (hv : VRel φ (.func (.func f) first cap) x') (ha : LRel φ args args'.toList) :
    ∃ e', (∀ w, (Deferred.ofValue x' args').run P w = .ok e' w) ∧ DfRel φ (.fn f (first.toList ++ args ++ cap.toList)) e' := by
  cases hv with
  | fn _ h1 h2 h3 h4 => exact ⟨_, fun _ => rfl, _, rfl, by simpa using LRel.append (LRel.append ⟨h1, h2⟩ ha) ⟨h3, h4⟩⟩
theorem d3_sound {eqT : TypeId → Option (List SK)} (hq : ∀ t s, eqT t = some s → EqSpec P t s) (hC : CallOK P LB call) (hH : HRel LB φ h w) (hG : GRel P φ) (hE : LRel φ env a.tmps.toList) {d : D} (hD : DRel φ d a.defers) {i : L3} {o : Oper} {next : Act → World → Prop} {Q : Exit → Act → World → Prop} {k : Value → H → D → R} {kP : KV}
    (hs : o.semAt ro a.eval = execOp a.eval o) (hd : d3 P eqT o.op = some i) (hx : ev3 call i env h d k kP = some out)
    (hn : ∀ v g d' ψ u v' dfs, k v g d' = some out → VRel ψ v v' → Step LB φ h w ψ g u → DRel ψ d' dfs → next ({ a with defers := dfs }.put o.dst v') u)
    (hp : ∀ v g ψ u v', kP v g = some out → VRel ψ v v' → Step LB φ h w ψ g u → Q (.panic [{ v := v', recovered := false }]) a u) :
    o.wpIn (fen ro) 0 P a w next Q := by
  obtain ⟨dst, op, ty, pos, af, gd⟩ := o
  have val : ∀ {s : Sem Value} {v v' : Value} {g : H} {ψ : Phi} {u : World}, (execOp a.eval { dst, op, type := ty, pos, after := af, guard := gd }).run P w = ((do pure (Next.value (← s)) : Sem Next)).run P w → k v g d = some out → VRel ψ v v' → Step LB φ h w ψ g u → s.run P w = .ok v' u →
      (⟨dst, op, ty, pos, af, gd⟩ : Oper).wpIn (fen ro) 0 P a w next Q := fun {s v v' g ψ u} e h1 h2 h3 h4 =>
    wp_of_value hs (e.trans (val_run h4)) (hn v g d ψ u v' a.defers h1 h2 h3 (hD.mono (h3.ext.le hH)))
  have led : ∀ {r : Result Next}, (execOp a.eval { dst, op, type := ty, pos, after := af, guard := gd }).run P w = r → Leads P r (fun v' u => ∃ v g ψ, k v g d = some out ∧ VRel ψ v v' ∧ Step LB φ h w ψ g u)
      (fun c u => ∃ v v' g ψ, kP v g = some out ∧ c = [{ v := v', recovered := false }] ∧ VRel ψ v v' ∧ Step LB φ h w ψ g u) → (⟨dst, op, ty, pos, af, gd⟩ : Oper).wpIn (fen ro) 0 P a w next Q := fun {r} e h1 =>
    wp_of_leads hs (by
      rw [e]
      exact h1.mono (fun v' u ⟨v, g, ψ, h2, h3, h4⟩ => hn v g d ψ u v' a.defers h2 h3 h4 (hD.mono (h4.ext.le hH)))
        (fun c u ⟨v, v', g, ψ, h2, h3, h4, h5⟩ => by subst h3; exact hp v g ψ u v' h2 h4 h5))
  cases op <;> simp only [d3] at hd <;> try (cases hd; done)
  case store t x v =>
    split at hd <;> cases hd
    rename_i h1 h2 h3
    obtain ⟨g, u, h4, h5, h6⟩ := store_sound hH h1 (ev_rel hG hE h2) (ev_rel hG hE h3) hx
    refine wp_of_skip hs (u := u) ?_ (hn _ g d φ u _ a.defers h4 (VRel.undef φ) h5 hD)
    simp [execOp, h6]
  case next x b =>
    cases b <;> simp only at hd <;> try (cases hd; done)
    obtain ⟨y, hy, rfl⟩ := map_inv hd
    have hx' : nextStr (ev env y) h (fun v h => k v h d) = some out := hx
    obtain ⟨v, v', g, u, h1, h2, h3, h4⟩ := nextStr_sound (P := P) (t := ty) hH (ev_rel hG hE hy) hx'
    exact val rfl h1 h2 h3 h4
  case makeMap t r =>
    cases r <;> simp only at hd <;> try (cases hd; done)
    cases hd
    obtain ⟨v, v', g, ψ, u, h1, h2, h3, h4⟩ := mkMap_sound (P := P) (t := t) hH (k := fun v h => k v h d) hx
    exact val rfl h1 h2 h3 h4
  case lookup t x y ok =>
    split at hd <;> try (cases hd; done)
    rename_i h1 h2 h3
    split at hd <;> cases hd
    rename_i h4 h5
    obtain ⟨v, v', g1, g2, g3⟩ := mapGet_sound (P := P) hq hH h1 h4 h5 (ev_rel hG hE h2) (ev_rel hG hE h3) (f := fun v => k v h d) hx
    exact val rfl g1 g2 ⟨hH, Ext.refl _ _ _⟩ g3
  case mapUpdate t x y v =>
    split at hd <;> try (cases hd; done)
    rename_i h1 h2 h3 h4
    split at hd <;> cases hd
    rename_i h5
    obtain ⟨g, u, g1, g2, g3⟩ := mapSet_sound (P := P) hq hH h1 h5 (ev_rel hG hE h2) (ev_rel hG hE h3) (ev_rel hG hE h4) (f := fun h => k undef h d) hx
    refine wp_of_skip hs (u := u) ?_ (hn _ g d φ u _ a.defers g1 (VRel.undef φ) g2 hD)
    simp [execOp, g3]
  case panic x =>
    obtain ⟨y, hy, rfl⟩ := map_inv hd
    have r := ev_rel hG hE hy
    have hx' : panicV (ev env y) h kP = some out := hx
    unfold panicV at hx'
    split at hx'
    · rename_i t v e
      rw [e] at r
      cases hv : a.eval x <;> rw [hv] at r <;> cases r
      rename_i rv
      refine wp_of_panic hs (v := .iface t ‹_›) (u := w) ?_ (hp _ h φ w _ hx' (by rw [e]; exact .iface t rv) ⟨hH, Ext.refl _ _ _⟩)
      simp [execOp, hv, Instr.panic, goPanic, Sem.run]
    · cases hx'
  case defer c =>
    obtain ⟨callee, args, argTypes⟩ := c
    simp only at hd
    split at hd <;> try (cases hd; done)
    rename_i x
    split at hd <;> cases hd
    rename_i h1 h2
    have r := ev_rel hG hE h1
    have ra := evs_rel hG hE h2
    have hx' : deferV (ev env ‹_›) (evs env ‹_›) (fun e => k undef h (e :: d)) = some out := hx
    unfold deferV at hx'
    split at hx'
    · rename_i f first cap e
      rw [e] at r
      obtain ⟨e', k1, k2⟩ := ofValue_df (P := P) r (args' := args.map a.eval) (by simpa using ra)
      refine wp_of_defer hs (u := w) (d := e') ?_ (hn _ h _ φ w _ (_ :: a.defers) hx' (VRel.undef φ) ⟨hH, Ext.refl _ _ _⟩ ⟨k2, hD⟩)
      simp [execOp, resolve, k1]
    · cases hx'
  case call c =>
    obtain ⟨callee, args, argTypes⟩ := c
    simp only at hd
    split at hd
    · rename_i f
      split at hd <;> cases hd
      rename_i h1
      have ra := evs_rel hG hE h1
      exact led (r := (callFunc f (args.map a.eval)).run P w) (by simp [execOp, resolve, Act.eval, Deferred.ofValue, invoke])
        (hC φ h w (.fn f) _ _ (fun v h => k v h d) kP out _ hH hG (by simpa using ra) rfl hx)
    · rename_i x _
      split at hd <;> cases hd
      rename_i h1 h2
      obtain ⟨e, h3, h4⟩ := callV_sound (P := P) hC hH hG (ev_rel hG hE h1) (evs_rel hG hE h2) (kR := fun v h => k v h d) (kP := kP) (out := out) hx
      refine led ?_ h4
      have : (args.toList.map a.eval).toArray = args.map a.eval := by apply Array.ext'; simp
      rw [this] at h3
      simp [execOp, resolve, h3]
    · split at hd
      · rename_i t u x y hat har
        have e1 : argTypes = #[t, u] := by apply Array.ext'; exact hat
        have e2 : args = #[x, y] := by apply Array.ext'; exact har
        subst e1 e2
        split at hd
        · rename_i e du x' y' ht hu hx1 hy1
          split at hd <;> first
            | (cases hd; done)
            | (split at hd <;> cases hd
               rename_i ti zs he hz
               obtain ⟨q1, q2, q3⟩ := elemI_inv he
               have hx' : append e ti.size ti.bytes (ev env x') (ev env y') h (fun v h => k v h d) = some out := hx
               obtain ⟨v, v', g, ψ, u', p1, p2, p3, p4⟩ := append_sound (ty := ty) hH ht hu (by first | exact .inl ⟨_, rfl⟩ | exact .inr rfl) hz q1 q2 q3 (ev_rel hG hE hx1) (ev_rel hG hE hy1) hx'
               exact val (s := Builtin.append_ #[t, u] ty #[a.eval x, a.eval y]) (by simp [execOp, resolve, invoke, builtin]) p1 p2 p3 p4)
            | (split at hd <;> cases hd
               rename_i ti zs he hz
               obtain ⟨q1, q2, q3⟩ := elemI_inv he
               have hx' : appendZ e zs ti.size ti.bytes (ev env x') (ev env y') h (fun v h => k v h d) = some out := hx
               obtain ⟨v, v', g, ψ, u', p1, p2, p3, p4⟩ := appendZ_sound (ty := ty) hH ht hu hz q1 q2 q3 (ev_rel hG hE hx1) (ev_rel hG hE hy1) hx'
               exact val (s := Builtin.append_ #[t, u] ty #[a.eval x, a.eval y]) (by simp [execOp, resolve, invoke, builtin]) p1 p2 p3 p4)
        · cases hd
      · cases hd
    · split at hd
      · rename_i t u x y hat har
        have e1 : argTypes = #[t, u] := by apply Array.ext'; exact hat
        have e2 : args = #[x, y] := by apply Array.ext'; exact har
        subst e1 e2
        split at hd
        · rename_i e x' y' ht hx1 hy1
          split at hd <;> cases hd
          rename_i ti hi
          have hx' : copy ti.size (ev env x') (ev env y') h (fun v h => k v h d) = some out := hx
          obtain ⟨v, v', g, ψ, u', p1, p2, p3, p4⟩ := copy_sound (ty := ty) (u := u) hH ht hi (ev_rel hG hE hx1) (ev_rel hG hE hy1) hx'
          exact val (s := Builtin.copy_ #[t, u] ty #[a.eval x, a.eval y]) (by simp [execOp, resolve, invoke, builtin]) p1 p2 p3 p4
        · cases hd
      · cases hd
    · split at hd
      · rename_i t x hat har
        have e1 : argTypes = #[t] := by apply Array.ext'; exact hat
        have e2 : args = #[x] := by apply Array.ext'; exact har
        subst e1 e2
        split at hd
        · rename_i e x' ht hx1
          split at hd <;> cases hd
          rename_i ti zs hi hz
          obtain ⟨q1, q2, q3⟩ := elemI_inv hi
          have hx' : clearV zs (ev env x') h (fun v h => k v h d) = some out := hx
          obtain ⟨v, v', g, ψ, u', p1, p2, p3, p4⟩ := clear_sound (ty := ty) hH ht q1 q2 hz (ev_rel hG hE hx1) hx'
          exact val (s := Builtin.clear_ #[t] ty #[a.eval x]) (by simp [execOp, resolve, invoke, builtin]) p1 p2 p3 p4
        · cases hd
      · cases hd
    · split at hd
      · rename_i t u x y hts hxs
        have e1 : argTypes = #[t, u] := by apply Array.ext'; simpa using hts
        have e2 : args = #[x, y] := by apply Array.ext'; simpa using hxs
        subst e1 e2
        split at hd <;> try (cases hd; done)
        rename_i e x' y' ht hx1 hy1
        split at hd <;> cases hd
        rename_i hc1
        have hx' : unStr e (ev env x') (ev env y') h (fun v h => k v h d) = some out := hx
        obtain ⟨v, v', g, u', p1, p2, p3, p4⟩ := unStr_sound (P := P) (it := u) (ty := ty) hH ht hc1 (ev_rel hG hE hx1) (ev_rel hG hE hy1) hx'
        exact val (s := Builtin.unsafeString_ #[t, u] ty #[a.eval x, a.eval y]) (by simp [execOp, resolve, invoke, builtin]) p1 p2 p3 p4
      · cases hd
    · cases hd

theorem evI_sound {eqT : TypeId → Option (List SK)} (hq : ∀ t s, eqT t = some s → EqSpec P t s) (hC : CallOK P LB call) (hH : HRel LB φ h w) (hG : GRel P φ) (hE : LRel φ env a.tmps.toList) {d : D} (hD : DRel φ d a.defers) {i : I} {o : Oper} {next : Act → World → Prop} {Q : Exit → Act → World → Prop} {k : Value → H → D → R} {kP : KV}
    (hs : o.semAt ro a.eval = execOp a.eval o) (hd : dOp P eqT o.op = some i) (hx : evI call i env h d k kP = some out)
    (hn : ∀ v g d' ψ u v' dfs, k v g d' = some out → VRel ψ v v' → Step LB φ h w ψ g u → DRel ψ d' dfs → next ({ a with defers := dfs }.put o.dst v') u)
    (hp : ∀ v g ψ u v', kP v g = some out → VRel ψ v v' → Step LB φ h w ψ g u → Q (.panic [{ v := v', recovered := false }]) a u) :
    o.wpIn (fen ro) 0 P a w next Q := by
  unfold dOp at hd
  split at hd
  · rename_i j hj
    cases hd
    obtain ⟨v, v', h1, h2, h3⟩ := d1_sound (dst := o.dst) (ty := o.type) (pos := o.pos) (af := o.after) (gd := o.guard) (f := fun v => k v h d) hH hG hE hq hj hx
    exact wp_of_value hs h3 (hn v h d φ w v' a.defers h1 h2 ⟨hH, Ext.refl _ _ _⟩ hD)
  · split at hd
    · rename_i j hj
      cases hd
      obtain ⟨v, v', g, ψ, u, h1, h2, h3, h4⟩ := d2_sound (dst := o.dst) (ty := o.type) (pos := o.pos) (af := o.after) (gd := o.guard) (k := fun v h => k v h d) hH hG hE hj hx
      exact wp_of_value hs h4 (hn v g d ψ u v' a.defers h1 h2 h3 (hD.mono (h3.ext.le hH)))
    · obtain ⟨j, hj, rfl⟩ := map_inv hd
      exact d3_sound hq hC hH hG hE hD hs hj hx hn hp
end
end
end Go.Ev
