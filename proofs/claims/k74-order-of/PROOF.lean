import PyProof.Rows.All
import HandS.ForMost
import HandS.ForExc
import HandS.ForDict
import HandS.HeadHook2
import HandS.Wide
import HandS.CallSlots
import HandS.IsInst
import HandS.ClsMeth
import HandS.ExcIs
import HandS.TryMany
import HandS.TryOnly
import KE.KStateDown
import Lean
import HandS.Head0
import HandS.Head1
import HandS.Head2
import HandS.HeadEnd
import HandS.HeadHook1
import HandS.HeadHook4
import PySem.Challenge.RW_rowjudge_k74_order_of
set_option Elab.async false
set_option linter.all false
set_option maxRecDepth 100000
set_option maxHeartbeats 2000000
/-! Vi1: plain data for Python values, how a heap bears them, the state of a def by slots. -/
namespace Vi
open PySem PySem.Spec PyProof.Rows L2

/-- plain data -/
inductive D where
  | non | bl (b : Bool) | int (i : Int) | str (s : Str)
  | lst (xs : List D) | tup (xs : List D) | dct (ks : List Key) (xs : List D) | obj (c : Nat) (xs : List D)
  /-- the script: a list of ints that is read alone -/
  | scr (ns : List Int)

/-- the written part, the classes' names by number, the fields of each class in the order in which they are stored -/
structure Sg where
  K : PySem.W.Frag
  cn : Nat → Str
  fl : Nat → List Str

def Ex (H H' : Hp) : Prop := ∀ a o, H a = some o → H' a = some o
theorem Ex.refl (H : Hp) : Ex H H := fun _ _ h => h
theorem Ex.trans {H H1 H2 : Hp} (a : Ex H H1) (b : Ex H1 H2) : Ex H H2 := fun x o h => b x o (a x o h)
theorem Ex.new {H : Hp} {p : Addr} {o : HO} (h : H p = none) : Ex H (upd H p o) := fun a u e => by
  rw [upd_ne (ne_of_none e h)]
  exact e
theorem Ex.rd {H H' : Hp} {a : Addr} {u : HO} (e : Ex H H') (h : Rd H a u) : Rd H' a u := by
  rcases h with h | ⟨o, h⟩
  · exact .inl (e a _ h)
  · exact .inr ⟨o, e a _ h⟩
theorem Ex.sqL {K : PySem.W.Frag} {H H' : Hp} {a : Addr} {xs : List V} (e : Ex H H') (h : SqL K H a xs) : SqL K H' a xs := by
  rcases h with h | h
  · exact .inl (e.rd h)
  · exact .inr h
theorem Ex.sqT {K : PySem.W.Frag} {H H' : Hp} {a : Addr} {xs : List V} (e : Ex H H') (h : SqT K H a xs) : SqT K H' a xs := by
  rcases h with h | h
  · exact .inl (e.rd h)
  · exact .inr h

section
variable (S : Sg) (F : Hp)
mutual
/-- v bears d, all of it lies in F -/
def Rep : D → V → Prop
  | .non, v => v = .non
  | .bl b, v => v = .bl b
  | .int i, v => v = .int i
  | .str s, v => v = .str s
  | .lst xs, v => ∃ a vs, v = .ref a ∧ F a = some (.lst vs) ∧ Reps xs vs
  | .tup xs, v => ∃ a vs, v = .ref a ∧ F a = some (.tup vs) ∧ Reps xs vs
  | .scr ns, v => ∃ a, v = .ref a ∧ SqL S.K F a (ns.map V.int)
  | .dct ks xs, v => ∃ a kvs, v = .ref a ∧ F a = some (.dK kvs) ∧ kvs.map (·.1) = ks ∧ Reps xs (kvs.map (·.2))
  | .obj c xs, v => ∃ a dx gs, v = .ref a ∧ F a = some (.ins (He.ga S.K (S.cn c)) dx gs) ∧ gs.map (·.1) = S.fl c ∧ Reps xs (gs.map (·.2))
def Reps : List D → List V → Prop
  | [], vs => vs = []
  | x :: xs, vs => ∃ v r, vs = v :: r ∧ Rep x v ∧ Reps xs r
end
end

section
variable {S : Sg} {F F' : Hp}
mutual
theorem Rep.mono (e : Ex F F') : ∀ {d : D} {v : V}, Rep S F d v → Rep S F' d v
  | .non, v, h => by simpa [Rep] using h
  | .bl b, v, h => by simpa [Rep] using h
  | .int i, v, h => by simpa [Rep] using h
  | .str s, v, h => by simpa [Rep] using h
  | .scr ns, v, h => by
    simp only [Rep] at h ⊢
    obtain ⟨a, h1, h2⟩ := h
    exact ⟨a, h1, e.sqL h2⟩
  | .lst xs, v, h => by
    simp only [Rep] at h ⊢
    obtain ⟨a, vs, h1, h2, h3⟩ := h
    exact ⟨a, vs, h1, e _ _ h2, Reps.mono e h3⟩
  | .tup xs, v, h => by
    simp only [Rep] at h ⊢
    obtain ⟨a, vs, h1, h2, h3⟩ := h
    exact ⟨a, vs, h1, e _ _ h2, Reps.mono e h3⟩
  | .dct ks xs, v, h => by
    simp only [Rep] at h ⊢
    obtain ⟨a, kvs, h1, h2, h3, h4⟩ := h
    exact ⟨a, kvs, h1, e _ _ h2, h3, Reps.mono e h4⟩
  | .obj c xs, v, h => by
    simp only [Rep] at h ⊢
    obtain ⟨a, dx, gs, h1, h2, h3, h4⟩ := h
    exact ⟨a, dx, gs, h1, e _ _ h2, h3, Reps.mono e h4⟩
theorem Reps.mono (e : Ex F F') : ∀ {xs : List D} {vs : List V}, Reps S F xs vs → Reps S F' xs vs
  | [], vs, h => by simpa [Reps] using h
  | x :: xs, vs, h => by
    simp only [Reps] at h ⊢
    obtain ⟨v, r, h1, h2, h3⟩ := h
    exact ⟨v, r, h1, Rep.mono e h2, Reps.mono e h3⟩
end
theorem reps_nil : Reps S F [] [] := by simp [Reps]
theorem reps_cons {d : D} {v : V} {ds : List D} {vs : List V} (h : Rep S F d v) (t : Reps S F ds vs) : Reps S F (d :: ds) (v :: vs) := by
  simp only [Reps]
  exact ⟨v, vs, rfl, h, t⟩
theorem reps_nil_inv {vs : List V} (h : Reps S F [] vs) : vs = [] := by simpa [Reps] using h
theorem reps_cons_inv {d : D} {ds : List D} {vs : List V} (h : Reps S F (d :: ds) vs) : ∃ v r, vs = v :: r ∧ Rep S F d v ∧ Reps S F ds r := by
  simpa only [Reps] using h
theorem Reps.length : ∀ {ds : List D} {vs : List V}, Reps S F ds vs → ds.length = vs.length
  | [], vs, h => by rw [reps_nil_inv h]; rfl
  | d :: ds, vs, h => by
    obtain ⟨v, r, rfl, _, h⟩ := reps_cons_inv h
    simp [Reps.length h]
theorem Reps.append : ∀ {ds es : List D} {vs ws : List V}, Reps S F ds vs → Reps S F es ws → Reps S F (ds ++ es) (vs ++ ws)
  | [], es, vs, ws, h, h' => by rw [reps_nil_inv h]; exact h'
  | d :: ds, es, vs, ws, h, h' => by
    obtain ⟨v, r, rfl, h1, h2⟩ := reps_cons_inv h
    exact reps_cons h1 (Reps.append h2 h')
theorem Reps.take : ∀ (n : Nat) {ds : List D} {vs : List V}, Reps S F ds vs → Reps S F (ds.take n) (vs.take n)
  | 0, _, _, _ => reps_nil
  | n + 1, [], vs, h => by rw [reps_nil_inv h]; exact reps_nil
  | n + 1, d :: ds, vs, h => by
    obtain ⟨v, r, rfl, h1, h2⟩ := reps_cons_inv h
    exact reps_cons h1 (Reps.take n h2)
theorem Reps.drop : ∀ (n : Nat) {ds : List D} {vs : List V}, Reps S F ds vs → Reps S F (ds.drop n) (vs.drop n)
  | 0, _, _, h => h
  | n + 1, [], vs, h => by rw [reps_nil_inv h]; exact reps_nil
  | n + 1, d :: ds, vs, h => by
    obtain ⟨v, r, rfl, h1, h2⟩ := reps_cons_inv h
    exact Reps.drop n h2
theorem Reps.get : ∀ {i : Nat} {ds : List D} {vs : List V} {d : D}, Reps S F ds vs → ds[i]? = some d → ∃ v, vs[i]? = some v ∧ Rep S F d v
  | _, [], _, _, _, e => by simp at e
  | 0, d :: ds, vs, d', h, e => by
    obtain ⟨v, r, rfl, h1, h2⟩ := reps_cons_inv h
    simp at e
    subst e
    exact ⟨v, rfl, h1⟩
  | i + 1, d :: ds, vs, d', h, e => by
    obtain ⟨v, r, rfl, h1, h2⟩ := reps_cons_inv h
    simp at e
    simpa using Reps.get h2 e
theorem Reps.set : ∀ (i : Nat) {ds : List D} {vs : List V} {d : D} {v : V}, Reps S F ds vs → Rep S F d v → Reps S F (ds.set i d) (vs.set i v)
  | _, [], vs, _, _, h, _ => by rw [reps_nil_inv h]; exact reps_nil
  | 0, d :: ds, vs, d', v', h, q => by
    obtain ⟨v, r, rfl, h1, h2⟩ := reps_cons_inv h
    exact reps_cons q h2
  | i + 1, d :: ds, vs, d', v', h, q => by
    obtain ⟨v, r, rfl, h1, h2⟩ := reps_cons_inv h
    exact reps_cons h1 (Reps.set i h2 q)
theorem Reps.rev : ∀ {ds : List D} {vs : List V}, Reps S F ds vs → Reps S F ds.reverse vs.reverse
  | [], vs, h => by rw [reps_nil_inv h]; exact reps_nil
  | d :: ds, vs, h => by
    obtain ⟨v, r, rfl, h1, h2⟩ := reps_cons_inv h
    rw [List.reverse_cons, List.reverse_cons]
    exact (Reps.rev h2).append (reps_cons h1 reps_nil)

/-- flat data lies in no heap -/
def D.flat : D → Bool
  | .non => true
  | .bl _ => true
  | .int _ => true
  | .str _ => true
  | _ => false
theorem Rep.flat {d : D} {v : V} (h : Rep S F d v) (f : d.flat = true) : Rep S F' d v := by
  cases d <;> first | (exact absurd f Bool.false_ne_true) | (simp only [Rep] at h ⊢; exact h)
/-- the value of flat data -/
def D.fv : D → V
  | .bl b => .bl b
  | .int i => .int i
  | .str s => .str s
  | _ => .non
theorem Rep.fv {d : D} {v : V} (h : Rep S F d v) (f : d.flat = true) : v = d.fv := by
  cases d <;> first | (exact absurd f Bool.false_ne_true) | (simp only [Rep, D.fv] at h ⊢; exact h)
theorem rep_fv {d : D} (f : d.flat = true) : Rep S F d d.fv := by
  cases d <;> first | (exact absurd f Bool.false_ne_true) | (simp only [Rep, D.fv])
theorem rep_int {i : Int} : Rep S F (.int i) (.int i) := by simp [Rep]
theorem rep_bl {b : Bool} : Rep S F (.bl b) (.bl b) := by simp [Rep]
theorem rep_str {s : Str} : Rep S F (.str s) (.str s) := by simp [Rep]
theorem rep_non : Rep S F .non .non := by simp [Rep]
theorem rep_lst {xs : List D} {a : Addr} {vs : List V} (h : F a = some (.lst vs)) (r : Reps S F xs vs) : Rep S F (.lst xs) (.ref a) := by
  simp only [Rep]
  exact ⟨a, vs, rfl, h, r⟩
theorem rep_tup {xs : List D} {a : Addr} {vs : List V} (h : F a = some (.tup vs)) (r : Reps S F xs vs) : Rep S F (.tup xs) (.ref a) := by
  simp only [Rep]
  exact ⟨a, vs, rfl, h, r⟩
theorem rep_int_inv {i : Int} {v : V} (h : Rep S F (.int i) v) : v = .int i := by simpa [Rep] using h
theorem rep_bl_inv {i : Bool} {v : V} (h : Rep S F (.bl i) v) : v = .bl i := by simpa [Rep] using h
theorem rep_str_inv {i : Str} {v : V} (h : Rep S F (.str i) v) : v = .str i := by simpa [Rep] using h
theorem rep_non_inv {v : V} (h : Rep S F .non v) : v = .non := by simpa [Rep] using h
theorem rep_lst_inv {xs : List D} {v : V} (h : Rep S F (.lst xs) v) : ∃ a vs, v = .ref a ∧ F a = some (.lst vs) ∧ Reps S F xs vs := by simpa only [Rep] using h
theorem rep_scr_inv {ns : List Int} {v : V} (h : Rep S F (.scr ns) v) : ∃ a, v = .ref a ∧ SqL S.K F a (ns.map V.int) := by simpa only [Rep] using h
theorem rep_tup_inv {xs : List D} {v : V} (h : Rep S F (.tup xs) v) : ∃ a vs, v = .ref a ∧ F a = some (.tup vs) ∧ Reps S F xs vs := by simpa only [Rep] using h
theorem rep_dct_inv {ks : List Key} {xs : List D} {v : V} (h : Rep S F (.dct ks xs) v) : ∃ a kvs, v = .ref a ∧ F a = some (.dK kvs) ∧ kvs.map (·.1) = ks ∧ Reps S F xs (kvs.map (·.2)) := by simpa only [Rep] using h
theorem rep_obj_inv {c : Nat} {xs : List D} {v : V} (h : Rep S F (.obj c xs) v) : ∃ a dx gs, v = .ref a ∧ F a = some (.ins (He.ga S.K (S.cn c)) dx gs) ∧ gs.map (·.1) = S.fl c ∧ Reps S F xs (gs.map (·.2)) := by simpa only [Rep] using h
end

/-! ### growth: what an expression does -/
/-- F the shared part of H; nothing that stands changes; what joins F is new or was in it -/
structure Gr (F H F' H' : Hp) : Prop where
  f : Ex F F'
  h : Ex H H'
  fh : Ex F' H'
  no : ∀ a, H a ≠ none → F a = none → F' a = none
theorem Gr.refl {F H : Hp} (e : Ex F H) : Gr F H F H := ⟨.refl _, .refl _, e, fun _ _ h => h⟩
theorem some_ne {H : Hp} {a : Addr} (h : H a ≠ none) : ∃ o, H a = some o := by
  cases e : H a with
  | none => exact absurd e h
  | some o => exact ⟨o, rfl⟩
theorem Ex.ne {H H' : Hp} (e : Ex H H') {a : Addr} (h : H a ≠ none) : H' a ≠ none := by
  obtain ⟨o, q⟩ := some_ne h
  rw [e a o q]
  intro z
  cases z
theorem Gr.trans {F H F1 H1 F2 H2 : Hp} (a : Gr F H F1 H1) (b : Gr F1 H1 F2 H2) : Gr F H F2 H2 :=
  ⟨a.f.trans b.f, a.h.trans b.h, b.fh, fun x h1 h2 => b.no x (a.h.ne h1) (a.no x h1 h2)⟩
/-- a new object, shared from its making on -/
theorem Gr.new {F H : Hp} {p : Addr} {o : HO} (e : Ex F H) (h : H p = none) : Gr F H (upd F p o) (upd H p o) where
  f := Ex.new (by
    cases q : F p with
    | none => rfl
    | some u => rw [e p u q] at h; cases h)
  h := Ex.new h
  fh := fun a u q => by
    by_cases z : a = p
    · subst z
      rw [upd_same] at q ⊢
      exact q
    · rw [upd_ne z] at q ⊢
      exact e a u q
  no := fun a h1 h2 => by
    have z : a ≠ p := fun z => h1 (z ▸ h)
    rw [upd_ne z]
    exact h2
/-- a new object that stays out of the shared part -/
theorem Gr.aside {F H : Hp} {p : Addr} {o : HO} (e : Ex F H) (h : H p = none) : Gr F H F (upd H p o) :=
  ⟨.refl _, Ex.new h, e.trans (Ex.new h), fun _ _ q => q⟩
theorem fresh_of {F H : Hp} (e : Ex F H) {p : Addr} (h : H p = none) : F p = none := by
  cases q : F p with
  | none => rfl
  | some u => rw [e p u q] at h; cases h

/-! ### slots -/
inductive Slot where
  | no
  /-- shared data -/
  | sh (d : D)
  /-- a list, a dict that is this name's alone; its items are shared -/
  | ol (xs : List D) | od (ks : List Key) (xs : List D)
  /-- the object that is being made, its fields so far -/
  | oo (c : Nat) (xs : List D)
  /-- a caught error -/
  | exc (c : Nat)
abbrev Store := List Slot
/-- what stands fixed while a def runs: the shared part and the heap at its entry, the object that it makes, the error in hand -/
structure Bs where
  F0 : Hp
  H0 : Hp
  self : Option Addr := none
  ea : Option (Addr × Nat) := none
section
variable (S : Sg) (B : Bs) (F H : Hp)
def SlotRel : Slot → Option V → (Addr → Prop) → Prop
  | .no, _, P => ∀ a, ¬ P a
  | .sh d, o, P => (∃ v, o = some v ∧ Rep S F d v) ∧ ∀ a, ¬ P a
  | .ol xs, o, P => ∃ a vs, o = some (.ref a) ∧ H a = some (.lst vs) ∧ Reps S F xs vs ∧ B.self ≠ some a ∧ ∀ b, P b ↔ b = a
  | .od ks xs, o, P => ∃ a kvs, o = some (.ref a) ∧ H a = some (.dK kvs) ∧ kvs.map (·.1) = ks ∧ Reps S F xs (kvs.map (·.2)) ∧ B.self ≠ some a ∧ ∀ b, P b ↔ b = a
  | .oo c xs, o, P => ∃ a dx gs, o = some (.ref a) ∧ B.self = some a ∧ H a = some (.ins (He.ga S.K (S.cn c)) dx gs) ∧ gs.map (·.1) = (S.fl c).take xs.length ∧ Reps S F xs (gs.map (·.2)) ∧ ∀ b, P b ↔ b = a
  | .exc c, o, P => (∃ a, B.ea = some (a, c) ∧ o = some (.ref a)) ∧ ∀ a, ¬ P a
end
abbrev SS := List (Option V)
def sl (σ : SS) (i : Nat) : Option V := (σ[i]?).join
structure FpOk (S : Sg) (B : Bs) (F H : Hp) (σ : SS) (ρ : Store) (fp : Nat → Addr → Prop) : Prop where
  rel : ∀ i s, ρ[i]? = some s → SlotRel S B F H s (sl σ i) (fp i)
  one : ∀ i j a, fp i a → fp j a → i = j
  at_ : ∀ i a, fp i a → H a ≠ none ∧ F a = none ∧ (B.H0 a = none ∨ B.self = some a)
structure SRel (S : Sg) (B : Bs) (F H : Hp) (σ : SS) (ρ : Store) : Prop where
  fh : Ex F H
  f0 : Ex B.F0 F
  h0 : ∀ a o, B.H0 a = some o → B.self ≠ some a → H a = some o
  hn : ∀ a, B.H0 a ≠ none → H a ≠ none
  fn : ∀ a, B.H0 a ≠ none → B.F0 a = none → F a = none
  sn : ∀ a, B.self = some a → B.H0 a ≠ none
  len : σ.length = ρ.length
  slots : ∃ fp, FpOk S B F H σ ρ fp

section
variable {S : Sg} {B : Bs} {F H F' H' : Hp} {σ : SS} {ρ : Store}
theorem SlotRel.grow {s : Slot} {o : Option V} {P : Addr → Prop} (h : SlotRel S B F H s o P) (e : Ex F F') (k : ∀ a, P a → H' a = H a) : SlotRel S B F' H' s o P := by
  cases s with
  | no => exact h
  | sh d =>
    obtain ⟨⟨v, h1, h2⟩, h3⟩ := h
    exact ⟨⟨v, h1, h2.mono e⟩, h3⟩
  | ol xs =>
    obtain ⟨a, vs, h1, h2, h4, h5, h6⟩ := h
    exact ⟨a, vs, h1, (k a ((h6 a).mpr rfl)).trans h2, h4.mono e, h5, h6⟩
  | od ks xs =>
    obtain ⟨a, vs, h1, h2, h4, h5, h6, h7⟩ := h
    exact ⟨a, vs, h1, (k a ((h7 a).mpr rfl)).trans h2, h4, h5.mono e, h6, h7⟩
  | oo c xs =>
    obtain ⟨a, dx, gs, h1, h2, h4, h5, h6, h7⟩ := h
    exact ⟨a, dx, gs, h1, h2, (k a ((h7 a).mpr rfl)).trans h4, h5, h6.mono e, h7⟩
  | exc c => exact h
theorem SRel.grow (r : SRel S B F H σ ρ) (g : Gr F H F' H') : SRel S B F' H' σ ρ := by
  obtain ⟨fp, h1, h2, h3⟩ := r.slots
  refine ⟨g.fh, r.f0.trans g.f, fun a o q n => g.h a o (r.h0 a o q n), fun a q => g.h.ne (r.hn a q), fun a q n => g.no a (r.hn a q) (r.fn a q n), r.sn, r.len, fp, fun i s e => ?_, h2, fun i a q => ?_⟩
  · refine (h1 i s e).grow g.f fun a p => ?_
    obtain ⟨o, q⟩ := some_ne (h3 i a p).1
    rw [q, g.h a o q]
  · obtain ⟨q1, q2, q3⟩ := h3 i a q
    exact ⟨g.h.ne q1, g.no a q1 q2, q3⟩
theorem sl_set_same {i : Nat} {o : Option V} (h : i < σ.length) : sl (σ.set i o) i = o := by
  unfold sl
  rw [List.getElem?_set_self h]
  rfl
theorem sl_set_ne {i j : Nat} {o : Option V} (h : i ≠ j) : sl (σ.set i o) j = sl σ j := by
  unfold sl
  rw [List.getElem?_set_ne h]
/-- one slot takes something else (with footprint P), the heaps go on -/
theorem SRel.upd1 (r : SRel S B F H σ ρ) {fp : Nat → Addr → Prop} (ok : FpOk S B F H σ ρ fp) {i : Nat} {o : Option V} {s : Slot} (P : Addr → Prop) (fF : Ex F F') (fh : Ex F' H') (hk : ∀ a o, B.H0 a = some o → B.self ≠ some a → H' a = some o)
    (hn : ∀ a, B.H0 a ≠ none → H' a ≠ none) (fn : ∀ a, B.H0 a ≠ none → B.F0 a = none → F' a = none) (hi : i < ρ.length → SlotRel S B F' H' s o P)
    (hP : ∀ a, P a → H' a ≠ none ∧ F' a = none ∧ (B.H0 a = none ∨ B.self = some a)) (hd : ∀ j a, j ≠ i → fp j a → ¬ P a ∧ H' a = H a ∧ F' a = none) : SRel S B F' H' (σ.set i o) (ρ.set i s) := by
  obtain ⟨h1, h2, h3⟩ := ok
  refine ⟨fh, r.f0.trans fF, hk, hn, fn, r.sn, by simp [r.len], fun j => if j = i then P else fp j, fun j t e => ?_, fun j k a hj hk => ?_, fun j a hj => ?_⟩
  · by_cases q : j = i
    · subst q
      have hl : j < ρ.length := by
        have := (List.getElem?_eq_some_iff.mp e).1
        rw [List.length_set] at this
        exact this
      rw [List.getElem?_set_self hl] at e
      cases e
      rw [if_pos rfl, sl_set_same (by rw [r.len]; exact hl)]
      exact hi hl
    · rw [List.getElem?_set_ne (Ne.symm q)] at e
      rw [if_neg q, sl_set_ne (Ne.symm q)]
      exact (h1 j t e).grow fF fun a p => (hd j a q p).2.1
  · have hj : (if j = i then P else fp j) a := hj
    have hk : (if k = i then P else fp k) a := hk
    by_cases q : j = i
    · by_cases q2 : k = i
      · rw [q, q2]
      · rw [if_pos q] at hj
        rw [if_neg q2] at hk
        exact absurd hj (hd k a q2 hk).1
    · by_cases q2 : k = i
      · rw [if_neg q] at hj
        rw [if_pos q2] at hk
        exact absurd hk (hd j a q hj).1
      · rw [if_neg q] at hj
        rw [if_neg q2] at hk
        exact h2 j k a hj hk
  · have hj : (if j = i then P else fp j) a := hj
    by_cases q : j = i
    · rw [if_pos q] at hj
      exact hP a hj
    · rw [if_neg q] at hj
      obtain ⟨_, e2, e3⟩ := hd j a q hj
      exact ⟨by rw [e2]; exact (h3 j a hj).1, e3, (h3 j a hj).2.2⟩
theorem SRel.put0 (r : SRel S B F H σ ρ) {i : Nat} {o : Option V} {s : Slot} (h : SlotRel S B F H s o fun _ => False) : SRel S B F H (σ.set i o) (ρ.set i s) := by
  obtain ⟨fp, ok⟩ := r.slots
  exact r.upd1 ok (fun _ => False) (.refl _) r.fh r.h0 r.hn r.fn (fun _ => h) (fun _ z => z.elim) fun j a _ q => ⟨fun z => z, rfl, (ok.at_ j a q).2.1⟩
theorem SRel.setSh (r : SRel S B F H σ ρ) {i : Nat} {d : D} {v : V} (h : Rep S F d v) : SRel S B F H (σ.set i (some v)) (ρ.set i (.sh d)) := r.put0 ⟨⟨v, rfl, h⟩, fun _ z => z⟩
theorem SRel.setNo (r : SRel S B F H σ ρ) (i : Nat) (o : Option V) : SRel S B F H (σ.set i o) (ρ.set i .no) := r.put0 fun _ z => z
theorem SRel.h0none (r : SRel S B F H σ ρ) {p : Addr} (hp : H p = none) : B.H0 p = none := by
  cases q : B.H0 p with
  | none => rfl
  | some o => exact absurd hp (r.hn p (by rw [q]; intro z; cases z))
theorem SRel.selfne (r : SRel S B F H σ ρ) {p : Addr} (hp : H p = none) : B.self ≠ some p := fun q => r.sn p q (r.h0none hp)
theorem upd_neNone {H : Hp} {p : Addr} {o : HO} {a : Addr} (h : H a ≠ none) : upd H p o a ≠ none := by
  by_cases z : a = p
  · subst z
    rw [upd_same]
    intro q
    cases q
  · rw [upd_ne z]
    exact h
theorem upd_some {H : Hp} {p : Addr} {o : HO} : upd H p o p ≠ none := by
  rw [upd_same]
  intro q
  cases q
/-- a new object p, this slot's alone -/
theorem SRel.newOwn (r : SRel S B F H σ ρ) {i : Nat} {p : Addr} {o : HO} {s : Slot} (hp : H p = none) (h : SlotRel S B F (upd H p o) s (some (.ref p)) fun b => b = p) : SRel S B F (upd H p o) (σ.set i (some (.ref p))) (ρ.set i s) := by
  obtain ⟨fp, ok⟩ := r.slots
  have hF := fresh_of r.fh hp
  refine r.upd1 ok (fun b => b = p) (.refl _) (r.fh.trans (Ex.new hp)) (fun a o' q n => ?_) (fun a q => upd_neNone (r.hn a q)) r.fn (fun _ => h) (fun a e => ?_) fun j a _ q => ?_
  · rw [upd_ne (fun z => by rw [z, r.h0none hp] at q; cases q)]
    exact r.h0 a o' q n
  · subst e
    exact ⟨upd_some, hF, .inl (r.h0none hp)⟩
  · have z : a ≠ p := fun z => (ok.at_ j a q).1 (z ▸ hp)
    exact ⟨z, upd_ne z, (ok.at_ j a q).2.1⟩
theorem SRel.newOl (r : SRel S B F H σ ρ) {i : Nat} {p : Addr} {xs : List D} {vs : List V} (hp : H p = none) (h : Reps S F xs vs) : SRel S B F (upd H p (.lst vs)) (σ.set i (some (.ref p))) (ρ.set i (.ol xs)) :=
  r.newOwn hp ⟨p, vs, rfl, upd_same, h, r.selfne hp, fun _ => Iff.rfl⟩
theorem SRel.newOd (r : SRel S B F H σ ρ) {i : Nat} {p : Addr} {xs : List D} {kvs : List (Key × V)} (hp : H p = none) (h : Reps S F xs (kvs.map (·.2))) : SRel S B F (upd H p (.dK kvs)) (σ.set i (some (.ref p))) (ρ.set i (.od (kvs.map (·.1)) xs)) :=
  r.newOwn hp ⟨p, kvs, rfl, upd_same, rfl, h, r.selfne hp, fun _ => Iff.rfl⟩
theorem set_id {σ : SS} {i : Nat} {o : Option V} (h : sl σ i = o) (hi : i < σ.length) : σ.set i o = σ := by
  apply List.ext_getElem?
  intro j
  by_cases q : i = j
  · subst q
    rw [List.getElem?_set_self hi]
    unfold sl at h
    rw [List.getElem?_eq_getElem hi] at h ⊢
    simp at h
    rw [h]
  · rw [List.getElem?_set_ne q]
/-- an object that is this slot's alone changes -/
theorem SRel.mutOwn (r : SRel S B F H σ ρ) {fp : Nat → Addr → Prop} (ok : FpOk S B F H σ ρ fp) {i : Nat} {p : Addr} {o : HO} {s : Slot} (hi : i < ρ.length) (hs : sl σ i = some (.ref p)) (hf : fp i p)
    (h : SlotRel S B F (upd H p o) s (some (.ref p)) fun b => b = p) : SRel S B F (upd H p o) σ (ρ.set i s) := by
  have e : σ.set i (some (.ref p)) = σ := set_id hs (by rw [r.len]; exact hi)
  rw [← e]
  obtain ⟨a1, a2, a3⟩ := ok.at_ i p hf
  refine r.upd1 ok (fun b => b = p) (.refl _) (fun a u q => ?_) (fun a o' q n => ?_) (fun a q => upd_neNone (r.hn a q)) r.fn (fun _ => h) (fun a e => ?_) fun j a hj q => ?_
  · rw [upd_ne (fun z => by rw [z, a2] at q; cases q)]
    exact r.fh a u q
  · rw [upd_ne (fun z => by
      rw [z] at q n
      rcases a3 with a3 | a3
      · rw [a3] at q; cases q
      · exact n a3)]
    exact r.h0 a o' q n
  · subst e
    exact ⟨upd_some, a2, a3⟩
  · have z : a ≠ p := fun z => hj (ok.one j i a q (z ▸ hf))
    exact ⟨z, upd_ne z, (ok.at_ j a q).2.1⟩
/-- what a slot that holds a list of its own tells -/
theorem SRel.ol_inv (r : SRel S B F H σ ρ) {i : Nat} {xs : List D} (h : ρ[i]? = some (.ol xs)) : ∃ p vs, sl σ i = some (.ref p) ∧ H p = some (.lst vs) ∧ Reps S F xs vs ∧
    (∀ ys ws, Reps S F ys ws → SRel S B F (upd H p (.lst ws)) σ (ρ.set i (.ol ys))) ∧ F p = none := by
  obtain ⟨fp, ok⟩ := r.slots
  obtain ⟨p, vs, h1, h2, h3, h4, h5⟩ := ok.rel i _ h
  have hf := (h5 p).mpr rfl
  exact ⟨p, vs, h1, h2, h3, fun ys ws q => r.mutOwn ok (List.getElem?_eq_some_iff.mp h).1 h1 hf ⟨p, ws, rfl, upd_same, q, h4, fun _ => Iff.rfl⟩, (ok.at_ i p hf).2.1⟩
theorem SRel.od_inv (r : SRel S B F H σ ρ) {i : Nat} {ks : List Key} {xs : List D} (h : ρ[i]? = some (.od ks xs)) : ∃ p kvs, sl σ i = some (.ref p) ∧ H p = some (.dK kvs) ∧ kvs.map (·.1) = ks ∧ Reps S F xs (kvs.map (·.2)) ∧
    (∀ (ys : List D) (ls : List (Key × V)), Reps S F ys (ls.map (·.2)) → SRel S B F (upd H p (.dK ls)) σ (ρ.set i (.od (ls.map (·.1)) ys))) ∧ F p = none := by
  obtain ⟨fp, ok⟩ := r.slots
  obtain ⟨p, kvs, h1, h2, h3, h4, h5, h6⟩ := ok.rel i _ h
  have hf := (h6 p).mpr rfl
  exact ⟨p, kvs, h1, h2, h3, h4, fun ys ls q => r.mutOwn ok (List.getElem?_eq_some_iff.mp h).1 h1 hf ⟨p, ls, rfl, upd_same, rfl, q, h5, fun _ => Iff.rfl⟩, (ok.at_ i p hf).2.1⟩
theorem SRel.oo_inv (r : SRel S B F H σ ρ) {i : Nat} {c : Nat} {xs : List D} (h : ρ[i]? = some (.oo c xs)) : ∃ p dx gs, sl σ i = some (.ref p) ∧ B.self = some p ∧ H p = some (.ins (He.ga S.K (S.cn c)) dx gs) ∧ gs.map (·.1) = (S.fl c).take xs.length ∧ Reps S F xs (gs.map (·.2)) ∧
    (∀ (ys : List D) (ls : List (Str × V)), ls.map (·.1) = (S.fl c).take ys.length → Reps S F ys (ls.map (·.2)) → SRel S B F (upd H p (.ins (He.ga S.K (S.cn c)) dx ls)) σ (ρ.set i (.oo c ys))) := by
  obtain ⟨fp, ok⟩ := r.slots
  obtain ⟨p, dx, gs, h1, h2, h3, h4, h5, h6⟩ := ok.rel i _ h
  have hf := (h6 p).mpr rfl
  exact ⟨p, dx, gs, h1, h2, h3, h4, h5, fun ys ls q1 q2 => r.mutOwn ok (List.getElem?_eq_some_iff.mp h).1 h1 hf ⟨p, dx, ls, rfl, h2, upd_same, q1, q2, fun _ => Iff.rfl⟩⟩
theorem SRel.sh_inv (r : SRel S B F H σ ρ) {i : Nat} {d : D} (h : ρ[i]? = some (.sh d)) : ∃ v, sl σ i = some v ∧ Rep S F d v := by
  obtain ⟨fp, ok⟩ := r.slots
  exact (ok.rel i _ h).1
theorem SRel.exc_inv (r : SRel S B F H σ ρ) {i : Nat} {c : Nat} (h : ρ[i]? = some (.exc c)) : ∃ a, B.ea = some (a, c) ∧ sl σ i = some (.ref a) := by
  obtain ⟨fp, ok⟩ := r.slots
  exact (ok.rel i _ h).1
/-- a slot's own object becomes shared -/
theorem SRel.share (r : SRel S B F H σ ρ) {fp : Nat → Addr → Prop} (ok : FpOk S B F H σ ρ fp) {i : Nat} {p : Addr} {o : HO} {d : D} (hi : i < ρ.length) (hs : sl σ i = some (.ref p)) (hf : fp i p) (hp : H p = some o) (hself : B.self ≠ some p) (h : Rep S (upd F p o) d (.ref p)) :
    Ex F (upd F p o) ∧ SRel S B (upd F p o) H σ (ρ.set i (.sh d)) := by
  obtain ⟨a1, a2, a3⟩ := ok.at_ i p hf
  refine ⟨Ex.new a2, ?_⟩
  have e : σ.set i (some (.ref p)) = σ := set_id hs (by rw [r.len]; exact hi)
  rw [← e]
  refine r.upd1 ok (fun _ => False) (Ex.new a2) (fun a u q => ?_) r.h0 r.hn (fun a q n => ?_) (fun _ => ⟨⟨_, rfl, h⟩, fun _ z => z⟩) (fun _ z => z.elim) fun j a hj q => ?_
  · by_cases z : a = p
    · subst z
      rw [upd_same] at q
      rw [hp]
      exact q
    · rw [upd_ne z] at q
      exact r.fh a u q
  · rw [upd_ne (fun z => by
      rw [z] at q
      rcases a3 with a3 | a3
      · exact q a3
      · exact hself a3)]
    exact r.fn a q n
  · have z : a ≠ p := fun z => hj (ok.one j i a q (z ▸ hf))
    exact ⟨fun z => z, rfl, by rw [upd_ne z]; exact (ok.at_ j a q).2.1⟩
theorem SRel.shareOl (r : SRel S B F H σ ρ) {i : Nat} {xs : List D} (h : ρ[i]? = some (.ol xs)) : ∃ F', Ex F F' ∧ SRel S B F' H σ (ρ.set i (.sh (.lst xs))) := by
  obtain ⟨fp, ok⟩ := r.slots
  obtain ⟨p, vs, h1, h2, h3, h4, h5⟩ := ok.rel i _ h
  have hf := (h5 p).mpr rfl
  have e := Ex.new (o := .lst vs) (ok.at_ i p hf).2.1
  exact ⟨_, r.share ok (List.getElem?_eq_some_iff.mp h).1 h1 hf h2 h4 (rep_lst upd_same (h3.mono e))⟩
theorem SRel.shareOd (r : SRel S B F H σ ρ) {i : Nat} {ks : List Key} {xs : List D} (h : ρ[i]? = some (.od ks xs)) : ∃ F', Ex F F' ∧ SRel S B F' H σ (ρ.set i (.sh (.dct ks xs))) := by
  obtain ⟨fp, ok⟩ := r.slots
  obtain ⟨p, kvs, h1, h2, h3, h4, h5, h6⟩ := ok.rel i _ h
  have hf := (h6 p).mpr rfl
  have e := Ex.new (o := .dK kvs) (ok.at_ i p hf).2.1
  refine ⟨_, r.share ok (List.getElem?_eq_some_iff.mp h).1 h1 hf h2 h5 ?_⟩
  simp only [Rep]
  exact ⟨p, kvs, rfl, upd_same, h3, h4.mono e⟩
theorem SRel.wipe (r : SRel S B F H σ ρ) : ∀ vs : List Nat, SRel S B F H (L2.wipe σ vs) (vs.foldr (fun v t => t.set v .no) ρ)
  | [] => r
  | v :: vs => (SRel.wipe r vs).setNo v none
end
end Vi

/-! Vi2: what an expression is worth, as a function of the store; its rules. -/
namespace Vi
open PySem PySem.Spec PyProof.Rows L2

inductive R (α : Type) where
  | ok (a : α) | er (c : Nat) | bad
def R.bind {α β : Type} (r : R α) (f : α → R β) : R β := match r with
  | .ok a => f a
  | .er c => .er c
  | .bad => .bad
def R.of {α : Type} : Option α → R α
  | some a => .ok a
  | none => .bad
@[simp] theorem bind_ok {α β : Type} (a : α) (f : α → R β) : (R.ok a).bind f = f a := rfl
@[simp] theorem bind_er {α β : Type} (c : Nat) (f : α → R β) : (R.er c : R α).bind f = .er c := rfl
@[simp] theorem bind_bad {α β : Type} (f : α → R β) : (R.bad : R α).bind f = .bad := rfl
@[simp] theorem of_some {α : Type} (a : α) : R.of (some a) = .ok a := rfl
@[simp] theorem of_none {α : Type} : R.of (none : Option α) = .bad := rfl

abbrev DE := Store → R D
abbrev DB := Store → R Bool
abbrev DA := Store → R (List D)

/-- the class's object -/
def cl (S : Sg) (c : Nat) : Value := .ref (He.ga S.K (S.cn c))

section
variable {α υ : Type} (S : Sg) (B : Bs) (W : WX) (rep : Hp → Hp → α → υ → Prop)
def PostG (F H : Hp) (σ : SS) (Q : υ → Hp → Prop) : R α → Prop
  | .ok a => ∀ v F' H', Gr F H F' H' → rep F' H' a v → Q v H'
  | .er c => ∀ F' H', Gr F H F' H' → W (cl S c) none σ H'
  | .bad => False
/-- the reading of what is worth f -/
def tG (f : Store → R α) : SS → Hp → (υ → Hp → Prop) → Prop := fun σ H Q => ∃ F ρ, SRel S B F H σ ρ ∧ PostG S W rep F H σ Q (f ρ)
end
/-- a value: shared (it lies in the shared part) or borrowed (it lies in the heap) -/
def repV (S : Sg) : Hp → Hp → D → V → Prop := fun F _ d v => Rep S F d v
def repB (S : Sg) : Hp → Hp → D → V → Prop := fun _ H d v => Rep S H d v
def repA (S : Sg) : Hp → Hp → List D → List V → Prop := fun F _ d v => Reps S F d v
def repC (S : Sg) : Hp → Hp → List D → List V → Prop := fun _ H d v => Reps S H d v
def repT : Hp → Hp → Bool → Bool → Prop := fun _ _ b v => v = b
def repO : Hp → Hp → Option Int → Option Int → Prop := fun _ _ b v => v = b
abbrev sE (S : Sg) (B : Bs) (W : WX) (f : DE) : TE := tG S B W (repV S) f
abbrev bE (S : Sg) (B : Bs) (W : WX) (f : DE) : TE := tG S B W (repB S) f
abbrev sA (S : Sg) (B : Bs) (W : WX) (f : DA) : TA := tG S B W (repA S) f
abbrev bA (S : Sg) (B : Bs) (W : WX) (f : DA) : TA := tG S B W (repC S) f
abbrev sT (S : Sg) (B : Bs) (W : WX) (f : DB) : TT := tG S B W repT f
abbrev sO (S : Sg) (B : Bs) (W : WX) (f : Store → R (Option Int)) : TO := tG S B W repO f

section
variable {α β υ φ : Type} {S : Sg} {B : Bs} {W : WX} {F H F' H' : Hp} {σ : SS} {ρ : Store}
theorem PostG.grow {rep : Hp → Hp → α → υ → Prop} {Q : υ → Hp → Prop} {r : R α} (g : Gr F H F' H') (h : PostG S W rep F H σ Q r) : PostG S W rep F' H' σ Q r := by
  cases r with
  | ok a => exact fun v F2 H2 g2 q => h v F2 H2 (g.trans g2) q
  | er c => exact fun F2 H2 g2 => h F2 H2 (g.trans g2)
  | bad => exact h
/-- a part first -/
theorem bindG {rep : Hp → Hp → α → υ → Prop} {rep2 : Hp → Hp → β → φ → Prop} {f : Store → R α} {k : α → R β} {Q : φ → Hp → Prop} {G : υ → Hp → Prop} (rel : SRel S B F H σ ρ) (h : PostG S W rep2 F H σ Q ((f ρ).bind k))
    (hk : ∀ a v F1 H1, f ρ = .ok a → Gr F H F1 H1 → rep F1 H1 a v → PostG S W rep2 F1 H1 σ Q (k a) → G v H1) : tG S B W rep f σ H G := by
  refine ⟨F, ρ, rel, ?_⟩
  cases e : f ρ with
  | ok a =>
    rw [e] at h
    exact fun v F1 H1 g r => hk a v F1 H1 e g r (h.grow g)
  | er c =>
    rw [e] at h
    exact h
  | bad =>
    rw [e] at h
    exact h
/-- the end of a chain: an operation on what is there -/
theorem endG {rep2 : Hp → Hp → β → φ → Prop} {o : Option β} {Q : φ → Hp → Prop} (h : PostG S W rep2 F H σ Q (.of o)) : ∃ z, o = some z ∧ ∀ v F' H', Gr F H F' H' → rep2 F' H' z v → Q v H' := by
  cases o with
  | none => exact h.elim
  | some z => exact ⟨z, rfl, h⟩
end

section
variable {X : Cx} {S : Sg} {B : Bs} {W : WX} {e a b c : Expr} {es : List Expr} {pos : Pos}
theorem pe_imp {t t' : TE} (h : PE X e t) (q : ∀ σ H Q, t' σ H Q → t σ H Q) : PE X e t' := ⟨fun pins s σ H Q I w => h.run pins s σ H Q I (q σ H Q w)⟩
theorem pt_imp {t t' : TT} (h : PT X e t) (q : ∀ σ H Q, t' σ H Q → t σ H Q) : PT X e t' := ⟨fun pins s σ H Q I w => h.run pins s σ H Q I (q σ H Q w)⟩
theorem pw_imp {t t' : TT} (h : PW X e t) (q : ∀ σ H Q, t' σ H Q → t σ H Q) : PW X e t' := ⟨fun wh pins s σ H Q I w => h.run wh pins s σ H Q I (q σ H Q w)⟩
theorem pa_imp {t t' : TA} (h : PA X es t) (q : ∀ σ H Q, t' σ H Q → t σ H Q) : PA X es t' := ⟨fun pos pins s σ H Q I w => h.run pos pins s σ H Q I (q σ H Q w)⟩
theorem po_imp {o : Option Expr} {t t' : TO} (h : PO X o t) (q : ∀ σ H Q, t' σ H Q → t σ H Q) : PO X o t' := ⟨fun pins s σ H Q I w => h.run pins s σ H Q I (q σ H Q w)⟩
/-- shared data may be borrowed -/
theorem p_bor {f : DE} (h : PE X e (sE S B W f)) : PE X e (bE S B W f) := pe_imp h fun σ H Q ⟨F, ρ, rel, q⟩ => ⟨F, ρ, rel, by
  cases r : f ρ with
  | ok d =>
    rw [r] at q
    exact fun v F' H' g x => q v F' H' g (Rep.mono g.fh x)
  | er c =>
    rw [r] at q
    exact q
  | bad =>
    rw [r] at q
    exact q⟩

/-! ### constants, names -/
def cD (d : D) : DE := fun _ => .ok d
theorem p_c {d : D} {v : V} (h : PE X e (tC v)) (r : ∀ F, Rep S F d v) : PE X e (sE S B W (cD d)) := pe_imp h fun σ H Q ⟨F, ρ, rel, q⟩ => q v F H (Gr.refl rel.fh) (r _)
theorem p_int {i : Int} {j : Nat} : PE X (.Constant (.int i) j pos) (sE S B W (cD (.int i))) := p_c pe_int fun _ => rep_int
theorem p_str {x : Str} {j : Nat} : PE X (.Constant (.str x) j pos) (sE S B W (cD (.str x))) := p_c pe_str fun _ => rep_str
theorem p_bl {x : Bool} {j : Nat} : PE X (.Constant (.bool x) j pos) (sE S B W (cD (.bl x))) := p_c pe_bl fun _ => rep_bl
theorem p_non {j : Nat} : PE X (.Constant .none j pos) (sE S B W (cD .non)) := p_c pe_non fun _ => rep_non
/-- a module's constant -/
theorem p_glob {x : Str} {d : D} (hm : ∃ u, X.mg x = some u ∧ RelV d.fv u) (hf : d.flat = true := by rfl) (hg : Gl X x := by rfl) (hd : (x == ("__debug__" : Str)) = false := by decide) : PE X (.Name x pos) (sE S B W (cD d)) := by
  obtain ⟨u, h1, h2⟩ := hm
  exact p_c (pe_glob hg h1 h2 hd) fun F => rep_fv hf
/-- a slot, to be kept -/
def vD (i : Nat) : DE := fun ρ => match ρ[i]? with
  | some (.sh d) => .ok d
  | _ => .bad
/-- a slot, to be looked at -/
def bD (i : Nat) : DE := fun ρ => match ρ[i]? with
  | some (.sh d) => .ok d
  | some (.ol xs) => .ok (.lst xs)
  | some (.od ks xs) => .ok (.dct ks xs)
  | _ => .bad
theorem sl_get {σ : SS} {i : Nat} {v : V} (h : sl σ i = some v) : σ[i]? = some (some v) := by
  unfold sl at h
  cases e : σ[i]? with
  | none => rw [e] at h; cases h
  | some o => rw [e] at h; simp at h; rw [h]
theorem p_v (i : Nat) {x : Str} (hN : X.N[i]? = some x := by rfl) (hv : Vis X.env.scope x := by first | exact Or.inl rfl | exact Or.inr (Or.inl rfl) | exact Or.inr (Or.inr rfl)) (hd : (x == ("__debug__" : Str)) = false := by decide)
    (hcd : (x == ("__classdict__" : Str)) = false := by decide) : PE X (.Name x pos) (sE S B W (vD i)) := pe_imp (pv i hN hv hd hcd) fun σ H Q ⟨F, ρ, rel, q⟩ => by
  unfold vD at q
  split at q
  · rename_i d e
    obtain ⟨v, h1, h2⟩ := rel.sh_inv e
    exact ⟨v, sl_get h1, q v F H (Gr.refl rel.fh) h2⟩
  · exact q.elim
theorem bD_rep {F H : Hp} {σ : SS} {ρ : Store} {i : Nat} {Q : VK} (rel : SRel S B F H σ ρ) {α : Type} {φ : Type} {k : D → R α} {rep : Hp → Hp → α → φ → Prop} {Q' : φ → Hp → Prop} (q : PostG S W rep F H σ Q' ((bD i ρ).bind k)) : ∃ d v, bD i ρ = .ok d ∧ sl σ i = some v ∧ Rep S H d v := by
  unfold bD at q ⊢
  split at q
  · rename_i d e
    obtain ⟨v, h1, h2⟩ := rel.sh_inv e
    exact ⟨d, v, rfl, h1, Rep.mono rel.fh h2⟩
  · rename_i xs e
    obtain ⟨p, vs, h1, h2, h3, _⟩ := rel.ol_inv e
    exact ⟨_, .ref p, rfl, h1, rep_lst h2 (Reps.mono rel.fh h3)⟩
  · rename_i ks xs e
    obtain ⟨p, kvs, h1, h2, h3, h4, _⟩ := rel.od_inv e
    refine ⟨_, .ref p, rfl, h1, ?_⟩
    simp only [Rep]
    exact ⟨p, kvs, rfl, h2, h3, Reps.mono rel.fh h4⟩
  · exact q.elim
theorem p_b (i : Nat) {x : Str} (hN : X.N[i]? = some x := by rfl) (hv : Vis X.env.scope x := by first | exact Or.inl rfl | exact Or.inr (Or.inl rfl) | exact Or.inr (Or.inr rfl)) (hd : (x == ("__debug__" : Str)) = false := by decide)
    (hcd : (x == ("__classdict__" : Str)) = false := by decide) : PE X (.Name x pos) (bE S B W (bD i)) := pe_imp (pv i hN hv hd hcd) fun σ H Q ⟨F, ρ, rel, q⟩ => by
  have q' : PostG S W (repB S) F H σ Q ((bD i ρ).bind .ok) := by
    cases e : bD i ρ <;> (rw [e] at q; exact q)
  obtain ⟨d, v, h1, h2, h3⟩ := bD_rep (Q := Q) rel q'
  rw [h1] at q
  exact ⟨v, sl_get h2, q v F H (Gr.refl rel.fh) h3⟩

/-! ### operators -/
def bin (m : D → D → Option D) (f g : DE) : DE := fun ρ => (f ρ).bind fun d => (g ρ).bind fun e => .of (m d e)
/-- what a rule is to be good for: operands shared, the end shared -/
def OpIs (S : Sg) (r : R2) (m : D → D → Option D) : Prop := ∀ (d e z : D) (x y : V) (F H : Hp) (Q : VK), Ex F H → m d e = some z → Rep S F d x → Rep S F e y → (∀ v F' H', Gr F H F' H' → Rep S F' z v → Q v H') → r x y H Q
/-- .. operands borrowed, the end flat -/
def OpB (S : Sg) (r : R2) (m : D → D → Option D) : Prop := ∀ (d e z : D) (x y : V) (H : Hp) (Q : VK), m d e = some z → Rep S H d x → Rep S H e y → (∀ v H', Ex H H' → (∀ F, Rep S F z v) → (∀ F, Ex F H → Gr F H F H') → Q v H') → r x y H Q
theorem op2 {r : R2} {m : D → D → Option D} {f g : DE} {F H : Hp} {σ : SS} {ρ : Store} {Q : VK} (hm : OpIs S r m) (rel : SRel S B F H σ ρ) (q : PostG S W (repV S) F H σ Q (bin m f g ρ)) : tOp r (sE S B W f) (sE S B W g) σ H Q := by
  refine bindG rel q fun d x F1 H1 _ g1 r1 q1 => bindG (rel.grow g1) q1 fun e' y F2 H2 _ g2 r2 q2 => ?_
  obtain ⟨z, h1, h2⟩ := endG q2
  exact hm d e' z x y F2 H2 Q g2.fh h1 (Rep.mono g2.f r1) r2 h2
theorem op2b {r : R2} {m : D → D → Option D} {f g : DE} {F H : Hp} {σ : SS} {ρ : Store} {Q : VK} (hm : OpB S r m) (rel : SRel S B F H σ ρ) (q : PostG S W (repV S) F H σ Q (bin m f g ρ)) : tOp r (bE S B W f) (bE S B W g) σ H Q := by
  refine bindG rel q fun d x F1 H1 _ g1 r1 q1 => bindG (rel.grow g1) q1 fun e' y F2 H2 _ g2 r2 q2 => ?_
  obtain ⟨z, h1, h2⟩ := endG q2
  exact hm d e' z x y H2 Q h1 (Rep.mono g2.h r1) r2 fun v H' e q g => h2 v F2 H' (g F2 g2.fh) (q F2)
theorem p_bin {op : Operator} {r : R2} {m : D → D → Option D} {f g : DE} (ho : OpR X (binaryOp op) r) (hm : OpIs S r m) (ha : PE X a (sE S B W f)) (hb : PE X b (sE S B W g)) : PE X (.BinOp a op b pos) (sE S B W (bin m f g)) :=
  pe_imp (pe_op ho ha hb) fun σ H Q ⟨F, ρ, rel, q⟩ => op2 hm rel q
/-- two ints -/
def i2 (C : Int → Int → Bool) (g : Int → Int → D) : D → D → Option D
  | .int i, .int j => if C i j = true then some (g i j) else none
  | _, _ => none
theorem i2_inv {C : Int → Int → Bool} {g : Int → Int → D} {d e z : D} (h : i2 C g d e = some z) : ∃ i j, d = .int i ∧ e = .int j ∧ C i j = true ∧ z = g i j := by
  unfold i2 at h
  split at h
  · rename_i i j
    split at h
    · rename_i c
      exact ⟨i, j, rfl, rfl, c, (Option.some.inj h).symm⟩
    · cases h
  · cases h
theorem opIs_i2 {C : Int → Int → Prop} {Cb : Int → Int → Bool} {g : Int → Int → D} {gv : Int → Int → V} (hC : ∀ i j, Cb i j = true → C i j) (hg : ∀ i j, (g i j).flat = true ∧ (g i j).fv = gv i j) : OpIs S (rI C gv) (i2 Cb g) := by
  intro d e z x y F H Q ex hz hx hy q
  obtain ⟨i, j, rfl, rfl, c, rfl⟩ := i2_inv hz
  refine ⟨i, j, rep_int_inv hx, rep_int_inv hy, hC i j c, ?_⟩
  rw [← (hg i j).2]
  exact q _ F H (Gr.refl ex) (rep_fv (hg i j).1)
theorem opIs_i0 {g : Int → Int → D} {gv : Int → Int → V} (hg : ∀ i j, (g i j).flat = true ∧ (g i j).fv = gv i j) : OpIs S (rI0 gv) (i2 (fun _ _ => true) g) := by
  intro d e z x y F H Q ex hz hx hy q
  obtain ⟨i, j, rfl, rfl, c, rfl⟩ := i2_inv hz
  refine ⟨i, j, rep_int_inv hx, rep_int_inv hy, ?_⟩
  rw [← (hg i j).2]
  exact q _ F H (Gr.refl ex) (rep_fv (hg i j).1)
theorem opB_i0 {g : Int → Int → D} {gv : Int → Int → V} (hg : ∀ i j, (g i j).flat = true ∧ (g i j).fv = gv i j) : OpB S (rI0 gv) (i2 (fun _ _ => true) g) := by
  intro d e z x y H Q hz hx hy q
  obtain ⟨i, j, rfl, rfl, c, rfl⟩ := i2_inv hz
  refine ⟨i, j, rep_int_inv hx, rep_int_inv hy, ?_⟩
  rw [← (hg i j).2]
  exact q _ H (.refl _) (fun F => rep_fv (hg i j).1) fun F e => Gr.refl e
def small (n : Nat) : Bool := decide (n ≤ 16000000)
theorem small_le {n : Nat} (h : small n = true) : n ≤ sizeLine := Nat.le_trans (of_decide_eq_true h) (by rw [sizeLine_eq]; decide)
theorem small_lt {n : Nat} (h : small n = true) : n < sizeLine := Nat.lt_of_le_of_lt (of_decide_eq_true h) (by rw [sizeLine_eq]; decide)
def oAdd : D → D → Option D
  | .int i, .int j => some (.int (i + j))
  | .str x, .str y => if small (x.length + y.length) = true then some (.str (x ++ y)) else none
  | .lst xs, .lst ys => if small (xs.length + ys.length) = true then some (.lst (xs ++ ys)) else none
  | .tup (x :: xs), .tup ys => if small ((x :: xs).length + ys.length) = true then some (.tup (x :: xs ++ ys)) else none
  | _, _ => none
def rAddAll (K : PySem.W.Frag) : R2 := fun x y H Q => (∃ i j, x = .int i ∧ y = .int j ∧ Q (.int (i + j)) H) ∨ (∃ i j, x = .str i ∧ y = .str j ∧ i.length + j.length ≤ sizeLine ∧ Q (.str (i ++ j)) H) ∨ rCat x y H Q ∨ rCatT K x y H Q
theorem op_addAll : OpR X (binaryOp .Add) (rAddAll X.K) := OpR.or op_add (OpR.or op_add_str (OpR.or op_cat op_catT))
theorem opIs_add : OpIs S (rAddAll S.K) oAdd := by
  intro d e z x y F H Q ex hz hx hy q
  unfold oAdd at hz
  split at hz
  · cases hz
    rw [rep_int_inv hx, rep_int_inv hy]
    exact .inl ⟨_, _, rfl, rfl, q _ F H (Gr.refl ex) rep_int⟩
  · split at hz
    · rename_i c
      cases hz
      rw [rep_str_inv hx, rep_str_inv hy]
      exact .inr (.inl ⟨_, _, rfl, rfl, small_le c, q _ F H (Gr.refl ex) rep_str⟩)
    · cases hz
  · split at hz
    · rename_i c
      cases hz
      obtain ⟨p1, v1, rfl, h1, r1⟩ := rep_lst_inv hx
      obtain ⟨p2, v2, rfl, h2, r2⟩ := rep_lst_inv hy
      refine .inr (.inr (.inl ⟨p1, p2, v1, v2, rfl, rfl, ex _ _ h1, ex _ _ h2, by rw [← r1.length, ← r2.length]; exact small_le c, fun p hp => ?_⟩))
      have g := Gr.new (o := .lst (v1 ++ v2)) ex hp
      exact q _ _ _ g (rep_lst upd_same (((r1.append r2).mono g.f)))
    · cases hz
  · split at hz
    · rename_i c
      cases hz
      obtain ⟨p1, v1, rfl, h1, r1⟩ := rep_tup_inv hx
      obtain ⟨p2, v2, rfl, h2, r2⟩ := rep_tup_inv hy
      refine .inr (.inr (.inr ⟨p1, p2, v1, v2, rfl, rfl, SqT.of (ex _ _ h1), SqT.of (ex _ _ h2), ?_, by rw [← r1.length, ← r2.length]; exact small_le c, ?_⟩))
      · intro z
        subst z
        obtain ⟨_, _, z, _⟩ := reps_cons_inv r1
        cases z
      · refine ⟨fun z => ?_, fun z p hp => ?_⟩
        · subst z
          have e2 := List.eq_nil_of_length_eq_zero r2.length
          subst e2
          refine q _ F H (Gr.refl ex) (rep_tup h1 ?_)
          rw [List.append_nil]
          exact r1
        · have g := Gr.new (o := .tup (v1 ++ v2)) ex hp
          exact q _ _ _ g (rep_tup upd_same (((r1.append r2).mono g.f)))
    · cases hz
  · cases hz
theorem p_add {f g : DE} (ha : PE X a (sE S B W f)) (hb : PE X b (sE S B W g)) (hK : S.K = X.K := by rfl) : PE X (.BinOp a .Add b pos) (sE S B W (bin oAdd f g)) := p_bin (r := rAddAll S.K) (by rw [hK]; exact op_addAll) opIs_add ha hb
abbrev oSub := i2 (fun _ _ => true) fun i j => .int (i - j)
theorem p_sub {f g : DE} (ha : PE X a (sE S B W f)) (hb : PE X b (sE S B W g)) : PE X (.BinOp a .Sub b pos) (sE S B W (bin oSub f g)) := p_bin op_sub (opIs_i0 fun _ _ => ⟨rfl, rfl⟩) ha hb
def mulOk (i j : Int) : Bool := decide ((-(2 ^ 64) < i ∧ i < 2 ^ 64) ∨ (-(2 ^ 64) < j ∧ j < 2 ^ 64)) || decide (i.natAbs.log2 + j.natAbs.log2 < 1000000)
def oMul : D → D → Option D
  | .int i, .int j => if mulOk i j = true then some (.int (i * j)) else none
  | .lst xs, .int k => if decide (k ≤ 1000000) && small (xs.length * k.toNat) = true then some (.lst (List.replicate k.toNat xs).flatten) else none
  | _, _ => none
theorem op_mulAll : OpR X (binaryOp .Mult) (fun x y H Q => (∃ i j, x = .int i ∧ y = .int j ∧ CMul i j ∧ Q (.int (i * j)) H) ∨ (∃ i j, x = .int i ∧ y = .int j ∧ CMulW i j ∧ Q (.int (i * j)) H)) := OpR.or op_mul op_mulW
end
end Vi

/-! Vi3: more operators, comparisons, places, slices, displays. -/
namespace Vi
open PySem PySem.Spec PyProof.Rows L2
section
variable {X : Cx} {S : Sg} {B : Bs} {W : WX} {e a b c : Expr} {es : List Expr} {pos : Pos}
/-! ### * // % ** << >> & | ^ - -/
theorem mulOk_or {i j : Int} (h : mulOk i j = true) : CMul i j ∨ CMulW i j := by
  unfold mulOk at h
  rcases Bool.or_eq_true_iff.mp h with h | h
  · have z := of_decide_eq_true h
    exact .inl z
  · have z := of_decide_eq_true h
    exact .inr z
def rMulAll : R2 := fun x y H Q => (∃ i j, x = .int i ∧ y = .int j ∧ CMul i j ∧ Q (.int (i * j)) H) ∨ (∃ i j, x = .int i ∧ y = .int j ∧ CMulW i j ∧ Q (.int (i * j)) H) ∨ rRep x y H Q
theorem op_mulA : OpR X (binaryOp .Mult) rMulAll := OpR.or op_mul (OpR.or op_mulW op_rep)
theorem reps_rep {F : Hp} {ds : List D} {vs : List V} (h : Reps S F ds vs) : ∀ n : Nat, Reps S F (List.replicate n ds).flatten (List.replicate n vs).flatten
  | 0 => reps_nil
  | n + 1 => by
    rw [List.replicate_succ, List.replicate_succ, List.flatten_cons, List.flatten_cons]
    exact h.append (reps_rep h n)
def oMul2 : D → D → Option D
  | .int i, .int j => if mulOk i j = true then some (.int (i * j)) else none
  | .lst xs, .int k => if (decide (-1000000 ≤ k ∧ k ≤ 1000000) && small (xs.length * k.toNat)) = true then some (.lst (List.replicate k.toNat xs).flatten) else none
  | _, _ => none
theorem opIs_mul : OpIs S rMulAll oMul2 := by
  intro d e z x y F H Q ex hz hx hy q
  unfold oMul2 at hz
  split at hz
  · split at hz
    · rename_i c
      cases hz
      rw [rep_int_inv hx, rep_int_inv hy]
      rcases mulOk_or c with c | c
      · exact .inl ⟨_, _, rfl, rfl, c, q _ F H (Gr.refl ex) rep_int⟩
      · exact .inr (.inl ⟨_, _, rfl, rfl, c, q _ F H (Gr.refl ex) rep_int⟩)
    · cases hz
  · split at hz
    · rename_i xs k c
      cases hz
      obtain ⟨p1, v1, rfl, h1, r1⟩ := rep_lst_inv hx
      rw [rep_int_inv hy]
      obtain ⟨c1, c2⟩ := Bool.and_eq_true_iff.mp c
      have k1 := of_decide_eq_true c1
      refine .inr (.inr ⟨p1, k, v1, rfl, rfl, ex _ _ h1, by omega, by omega, by rw [← r1.length]; exact small_le c2, fun p hp => ?_⟩)
      have g := Gr.new (o := .lst (List.replicate k.toNat v1).flatten) ex hp
      exact q _ _ _ g (rep_lst upd_same ((reps_rep r1 _).mono g.f))
    · cases hz
  · cases hz
theorem p_mul {f g : DE} (ha : PE X a (sE S B W f)) (hb : PE X b (sE S B W g)) : PE X (.BinOp a .Mult b pos) (sE S B W (bin oMul2 f g)) := p_bin op_mulA opIs_mul ha hb
def divOk (j : Int) : Bool := decide (0 < j) && decide (j.natAbs.log2 < 9000)
abbrev oDiv := i2 (fun _ j => divOk j) fun i j => .int (i / j)
theorem p_div {f g : DE} (ha : PE X a (sE S B W f)) (hb : PE X b (sE S B W g)) : PE X (.BinOp a .FloorDiv b pos) (sE S B W (bin oDiv f g)) :=
  p_bin op_fdivW (opIs_i2 (C := CDivW) (fun i j h => by
    obtain ⟨h1, h2⟩ := Bool.and_eq_true_iff.mp h
    exact ⟨of_decide_eq_true h1, of_decide_eq_true h2⟩) fun _ _ => ⟨rfl, rfl⟩) ha hb
abbrev oMod := i2 (fun _ j => decide (0 < j)) fun i j => .int (i % j)
theorem p_mod {f g : DE} (ha : PE X a (sE S B W f)) (hb : PE X b (sE S B W g)) : PE X (.BinOp a .Mod b pos) (sE S B W (bin oMod f g)) :=
  p_bin op_mod (opIs_i2 (C := fun _ j => 0 < j) (fun i j h => of_decide_eq_true h) fun _ _ => ⟨rfl, rfl⟩) ha hb
def powOk (i j : Int) : Bool := decide (0 ≤ j ∧ j ≤ 1000000 ∧ i.natAbs < 2 ^ 64)
theorem powOk_ok (i j : Int) (h : powOk i j = true) : CPow i j := by
  have z := of_decide_eq_true h
  exact z
abbrev oPow := i2 powOk fun i j => .int (i ^ j.toNat)
theorem p_pow {f g : DE} (ha : PE X a (sE S B W f)) (hb : PE X b (sE S B W g)) : PE X (.BinOp a .Pow b pos) (sE S B W (bin oPow f g)) := p_bin op_pow (opIs_i2 powOk_ok fun _ _ => ⟨rfl, rfl⟩) ha hb
abbrev oShl := i2 powOk fun i j => .int (i * 2 ^ j.toNat)
theorem p_shl {f g : DE} (ha : PE X a (sE S B W f)) (hb : PE X b (sE S B W g)) : PE X (.BinOp a .LShift b pos) (sE S B W (bin oShl f g)) := p_bin op_shl (opIs_i2 powOk_ok fun _ _ => ⟨rfl, rfl⟩) ha hb
abbrev oShr := i2 (fun _ j => decide (0 ≤ j)) fun i j => .int (i / 2 ^ j.toNat)
theorem p_shr {f g : DE} (ha : PE X a (sE S B W f)) (hb : PE X b (sE S B W g)) : PE X (.BinOp a .RShift b pos) (sE S B W (bin oShr f g)) :=
  p_bin op_shr (opIs_i2 (C := fun _ j => 0 ≤ j) (fun i j h => of_decide_eq_true h) fun _ _ => ⟨rfl, rfl⟩) ha hb
abbrev oAnd := i2 (fun _ _ => true) fun i j => .int (Builtin.bitAnd i j)
theorem p_bitand {f g : DE} (ha : PE X a (sE S B W f)) (hb : PE X b (sE S B W g)) : PE X (.BinOp a .BitAnd b pos) (sE S B W (bin oAnd f g)) := p_bin op_and (opIs_i0 fun _ _ => ⟨rfl, rfl⟩) ha hb
abbrev oOr := i2 (fun _ _ => true) fun i j => .int (Builtin.bitOr i j)
theorem p_bitor {f g : DE} (ha : PE X a (sE S B W f)) (hb : PE X b (sE S B W g)) : PE X (.BinOp a .BitOr b pos) (sE S B W (bin oOr f g)) := p_bin op_or (opIs_i0 fun _ _ => ⟨rfl, rfl⟩) ha hb
abbrev oXor := i2 (fun _ _ => true) fun i j => .int (Builtin.bitXor i j)
theorem p_bitxor {f g : DE} (ha : PE X a (sE S B W f)) (hb : PE X b (sE S B W g)) : PE X (.BinOp a .BitXor b pos) (sE S B W (bin oXor f g)) := p_bin op_xor (opIs_i0 fun _ _ => ⟨rfl, rfl⟩) ha hb
def un (m : D → Option D) (f : DE) : DE := fun ρ => (f ρ).bind fun d => .of (m d)
def oNeg : D → Option D
  | .int i => some (.int (-i))
  | _ => none
theorem p_neg {f : DE} (ha : PE X a (sE S B W f)) : PE X (.UnaryOp .USub a pos) (sE S B W (un oNeg f)) := pe_imp (pe_un un_neg ha) fun σ H Q ⟨F, ρ, rel, q⟩ => by
  refine bindG rel q fun d x F1 H1 _ g1 r1 q1 => ?_
  obtain ⟨z, h1, h2⟩ := endG q1
  unfold oNeg at h1
  split at h1
  · cases h1
    exact ⟨_, rep_int_inv r1, h2 _ F1 H1 (Gr.refl g1.fh) rep_int⟩
  · cases h1

/-! ### comparisons: values, then tests -/
theorem p_cmp {op : CmpOp} {r : R2} {m : D → D → Option D} {f g : DE} (ho : OpR X (compareOp op) r) (hm : OpIs S r m) (ha : PE X a (sE S B W f)) (hb : PE X b (sE S B W g)) (hk : behindInMarks op b = false) : PE X (.Compare a [op] [b] pos) (sE S B W (bin m f g)) :=
  pe_imp (pe_cmpR ho ha hb hk) fun σ H Q ⟨F, ρ, rel, q⟩ => op2 hm rel q
theorem p_cmpB {op : CmpOp} {r : R2} {m : D → D → Option D} {f g : DE} (ho : OpR X (compareOp op) r) (hm : OpB S r m) (ha : PE X a (bE S B W f)) (hb : PE X b (bE S B W g)) (hk : behindInMarks op b = false) : PE X (.Compare a [op] [b] pos) (sE S B W (bin m f g)) :=
  pe_imp (pe_cmpR ho ha hb hk) fun σ H Q ⟨F, ρ, rel, q⟩ => op2b hm rel q
abbrev oLt := i2 (fun _ _ => true) fun i j => .bl (decide (i < j))
abbrev oLe := i2 (fun _ _ => true) fun i j => .bl (decide (i ≤ j))
abbrev oGt := i2 (fun _ _ => true) fun i j => .bl (decide (j < i))
abbrev oGe := i2 (fun _ _ => true) fun i j => .bl (decide (j ≤ i))
theorem p_lt {f g : DE} (ha : PE X a (sE S B W f)) (hb : PE X b (sE S B W g)) : PE X (.Compare a [.Lt] [b] pos) (sE S B W (bin oLt f g)) := p_cmp op_lt (opIs_i0 fun _ _ => ⟨rfl, rfl⟩) ha hb (nomark _)
theorem p_le {f g : DE} (ha : PE X a (sE S B W f)) (hb : PE X b (sE S B W g)) : PE X (.Compare a [.LtE] [b] pos) (sE S B W (bin oLe f g)) := p_cmp op_le (opIs_i0 fun _ _ => ⟨rfl, rfl⟩) ha hb (nomark _)
theorem p_gt {f g : DE} (ha : PE X a (sE S B W f)) (hb : PE X b (sE S B W g)) : PE X (.Compare a [.Gt] [b] pos) (sE S B W (bin oGt f g)) := p_cmp op_gt (opIs_i0 fun _ _ => ⟨rfl, rfl⟩) ha hb (nomark _)
theorem p_ge {f g : DE} (ha : PE X a (sE S B W f)) (hb : PE X b (sE S B W g)) : PE X (.Compare a [.GtE] [b] pos) (sE S B W (bin oGe f g)) := p_cmp op_ge (opIs_i0 fun _ _ => ⟨rfl, rfl⟩) ha hb (nomark _)
/-- a chain of two comparisons of ints -/
def chain (m m' : D → D → Option D) (f g h : DE) : DE := fun ρ => (f ρ).bind fun d => (g ρ).bind fun e => (R.of (m d e)).bind fun z => match z with
  | .bl true => (h ρ).bind fun k => .of (m' e k)
  | .bl false => .ok (.bl false)
  | _ => .bad
theorem p_chain {op op' : CmpOp} {p p' : Int → Int → Bool} {f g h : DE} (ho : OpR X (compareOp op) (rI0 fun i j => .bl (p i j))) (ho' : OpR X (compareOp op') (rI0 fun i j => .bl (p' i j))) (ha : PE X a (sE S B W f)) (hb : PE X b (sE S B W g)) (hc : PE X c (sE S B W h))
    (hm : lastMarks [op, op'] [b, c] = false := by with_unfolding_all rfl) : PE X (.Compare a [op, op'] [b, c] pos) (sE S B W (chain (i2 (fun _ _ => true) fun i j => .bl (p i j)) (i2 (fun _ _ => true) fun i j => .bl (p' i j)) f g h)) :=
  pe_imp (pe_chain ho ho' ha hb hc hm) fun σ H Q ⟨F, ρ, rel, q⟩ => by
  refine bindG rel q fun d x F1 H1 _ g1 r1 q1 => bindG (rel.grow g1) q1 fun e' y F2 H2 _ g2 r2 q2 => ?_
  cases hz : i2 (fun _ _ => true) (fun i j => D.bl (p i j)) d e' with
  | none => rw [hz] at q2; exact q2.elim
  | some z =>
    rw [hz] at q2
    obtain ⟨i, j, rfl, rfl, _, rfl⟩ := i2_inv hz
    refine ⟨i, j, rep_int_inv r1, rep_int_inv r2, p i j, rfl, ?_⟩
    cases hp : p i j with
    | true =>
      rw [hp] at q2
      rw [if_pos rfl]
      refine bindG ((rel.grow g1).grow g2) q2 fun k w F3 H3 _ g3 r3 q3 => ?_
      obtain ⟨z2, hz2, q4⟩ := endG q3
      obtain ⟨i2', j2, e1, rfl, _, rfl⟩ := i2_inv hz2
      cases e1
      exact ⟨_, j2, rep_int_inv r2, rep_int_inv r3, q4 _ F3 H3 (Gr.refl g3.fh) rep_bl⟩
    | false =>
      rw [hp] at q2
      rw [if_neg Bool.false_ne_true]
      exact q2 _ F2 H2 (Gr.refl g2.fh) rep_bl
/-- is None, is not None -/
def isNon : D → Bool
  | .non => true
  | _ => false
def isN (f : DE) : DE := fun ρ => (f ρ).bind fun d => .ok (.bl (isNon d))
def notN (f : DE) : DE := fun ρ => (f ρ).bind fun d => .ok (.bl (!isNon d))
theorem rep_isNon {F : Hp} {d : D} {v : V} (h : Rep S F d v) : decide (v = .non) = isNon d := by
  cases d with
  | non => rw [rep_non_inv h]; rfl
  | bl _ => rw [rep_bl_inv h]; rfl
  | int _ => rw [rep_int_inv h]; rfl
  | str _ => rw [rep_str_inv h]; rfl
  | lst _ => obtain ⟨_, _, rfl, _⟩ := rep_lst_inv h; rfl
  | tup _ => obtain ⟨_, _, rfl, _⟩ := rep_tup_inv h; rfl
  | dct _ _ => obtain ⟨_, _, rfl, _⟩ := rep_dct_inv h; rfl
  | obj _ _ => obtain ⟨_, _, _, rfl, _⟩ := rep_obj_inv h; rfl
  | scr _ => obtain ⟨_, rfl, _⟩ := rep_scr_inv h; rfl
theorem p_isN {f : DE} {j : Nat} {pos' : Pos} (ha : PE X a (bE S B W f)) : PE X (.Compare a [.Is] [.Constant .none j pos'] pos) (sE S B W (isN f)) := pe_imp (pe_cmp (pc_isN ha) rfl) fun σ H Q ⟨F, ρ, rel, q⟩ => by
  refine bindG rel q fun d x F1 H1 _ g1 r1 q1 => ?_
  rw [rep_isNon r1]
  exact q1 _ F1 H1 (Gr.refl g1.fh) rep_bl
theorem p_notN {f : DE} {j : Nat} {pos' : Pos} (ha : PE X a (bE S B W f)) : PE X (.Compare a [.IsNot] [.Constant .none j pos'] pos) (sE S B W (notN f)) := pe_imp (pe_cmp (pc_notN ha) rfl) fun σ H Q ⟨F, ρ, rel, q⟩ => by
  refine bindG rel q fun d x F1 H1 _ g1 r1 q1 => ?_
  rw [rep_isNon r1]
  exact q1 _ F1 H1 (Gr.refl g1.fh) rep_bl

/-! ### == of data -/
mutual
def D.py : D → PyData
  | .bl b => .bool b
  | .int i => .int i
  | .str s => .str s
  | .lst xs => .list (D.pys xs)
  | .tup xs => .tuple (D.pys xs)
  | .scr ns => .list (ns.map .int)
  | .non => .none
  | .dct _ _ => .none
  | .obj _ _ => .none
def D.pys : List D → List PyData
  | [] => []
  | x :: xs => D.py x :: D.pys xs
end
mutual
/-- it can be compared as data: no dict, no object, not deep -/
def D.lay : Nat → D → Bool
  | _, .non => true
  | _, .bl _ => true
  | _, .int _ => true
  | _, .str s => PyData.strOk s
  | k + 1, .lst xs => D.lays k xs
  | k + 1, .tup xs => D.lays k xs
  | _ + 1, .scr _ => true
  | _, _ => false
def D.lays : Nat → List D → Bool
  | _, [] => true
  | k, x :: xs => D.lay k x && D.lays k xs
end
theorem dpInts {K : PySem.W.Frag} {H : Hp} : ∀ ns : List Int, DpAll K H (ns.map V.int) (ns.map PyData.int)
  | [] => .nil
  | n :: ns => .cons (.int n) (dpInts ns)
theorem canInts : ∀ ns : List Int, PyData.canLayAll0 (ns.map PyData.int) = true
  | [] => by simp [PyData.canLayAll0]
  | n :: ns => by simp [PyData.canLayAll0, PyData.canLay0, canInts ns]
theorem depInts : ∀ ns : List Int, PyData.depthAll (ns.map PyData.int) = 0
  | [] => by simp [PyData.depthAll]
  | n :: ns => by simp [PyData.depthAll, PyData.depth, depInts ns]
mutual
theorem rep_dp {H : Hp} : ∀ (k : Nat) (d : D) (v : V), D.lay k d = true → Rep S H d v → Dp S.K H v d.py ∧ d.py.canLay0 = true ∧ d.py.depth ≤ k
  | k, .non, v, _, h => by rw [rep_non_inv h]; simp only [D.py]; exact ⟨.non, by simp [PyData.canLay0], by simp [PyData.depth]⟩
  | k, .bl b, v, _, h => by rw [rep_bl_inv h]; simp only [D.py]; exact ⟨.bl b, by simp [PyData.canLay0], by simp [PyData.depth]⟩
  | k, .int i, v, _, h => by rw [rep_int_inv h]; simp only [D.py]; exact ⟨.int i, by simp [PyData.canLay0], by simp [PyData.depth]⟩
  | k, .str s, v, l, h => by
    rw [rep_str_inv h]
    simp only [D.py]
    exact ⟨.str s, by simp only [PyData.canLay0]; simpa only [D.lay] using l, by simp [PyData.depth]⟩
  | k + 1, .scr ns, v, _, h => by
    obtain ⟨a, rfl, h1⟩ := rep_scr_inv h
    simp only [D.py]
    exact ⟨.lst h1 (dpInts ns), by simp only [PyData.canLay0]; exact canInts ns, by simp [PyData.depth, depInts]⟩
  | k + 1, .lst xs, v, l, h => by
    obtain ⟨a, vs, rfl, h1, h2⟩ := rep_lst_inv h
    simp only [D.lay] at l
    obtain ⟨q1, q2, q3⟩ := reps_dp k xs vs l h2
    simp only [D.py]
    exact ⟨.lst (SqL.of h1) q1, by simp only [PyData.canLay0]; exact q2, by simp only [PyData.depth]; omega⟩
  | k + 1, .tup xs, v, l, h => by
    obtain ⟨a, vs, rfl, h1, h2⟩ := rep_tup_inv h
    simp only [D.lay] at l
    obtain ⟨q1, q2, q3⟩ := reps_dp k xs vs l h2
    simp only [D.py]
    exact ⟨.tup (SqT.of h1) q1, by simp only [PyData.canLay0]; exact q2, by simp only [PyData.depth]; omega⟩
  | 0, .lst xs, v, l, _ => by simp [D.lay] at l
  | 0, .tup xs, v, l, _ => by simp [D.lay] at l
  | 0, .scr xs, v, l, _ => by simp [D.lay] at l
  | k, .dct _ _, v, l, _ => by cases k <;> simp [D.lay] at l
  | k, .obj _ _, v, l, _ => by cases k <;> simp [D.lay] at l
theorem reps_dp {H : Hp} : ∀ (k : Nat) (ds : List D) (vs : List V), D.lays k ds = true → Reps S H ds vs → DpAll S.K H vs (D.pys ds) ∧ PyData.canLayAll0 (D.pys ds) = true ∧ PyData.depthAll (D.pys ds) ≤ k
  | k, [], vs, _, h => by rw [reps_nil_inv h]; simp only [D.pys]; exact ⟨.nil, by simp [PyData.canLayAll0], by simp [PyData.depthAll]⟩
  | k, d :: ds, vs, l, h => by
    obtain ⟨v, r, rfl, h1, h2⟩ := reps_cons_inv h
    simp only [D.lays, Bool.and_eq_true] at l
    obtain ⟨a1, a2, a3⟩ := rep_dp k d v l.1 h1
    obtain ⟨b1, b2, b3⟩ := reps_dp k ds r l.2 h2
    simp only [D.pys]
    exact ⟨.cons a1 b1, by simp only [PyData.canLayAll0, a2, b2, Bool.and_self], by simp only [PyData.depthAll]; omega⟩
end
def deq (d e : D) : Bool := PyData.eqv d.py e.py
def oEq : D → D → Option D := fun d e => if scal d.fv e.fv = true ∧ d.flat = true ∧ e.flat = true then some (.bl (decide (d.fv = e.fv))) else if (D.lay 60 d && D.lay 60 e) = true then some (.bl (deq d e)) else none
def oNe : D → D → Option D := fun d e => if scal d.fv e.fv = true ∧ d.flat = true ∧ e.flat = true then some (.bl (!decide (d.fv = e.fv))) else if (D.lay 60 d && D.lay 60 e) = true then some (.bl (!deq d e)) else none
theorem opB_eq : OpB S (fun x y H Q => rEq x y H Q ∨ rEqD S.K x y H Q) oEq := by
  intro d e z x y H Q hz hx hy q
  unfold oEq at hz
  split at hz
  · rename_i c
    cases hz
    refine .inl ?_
    rw [hx.fv c.2.1, hy.fv c.2.2]
    exact ⟨c.1, q _ H (.refl _) (fun F => rep_bl) fun F e => Gr.refl e⟩
  · split at hz
    · rename_i c
      cases hz
      obtain ⟨c1, c2⟩ := Bool.and_eq_true_iff.mp c
      obtain ⟨a1, a2, a3⟩ := rep_dp 60 d x c1 hx
      obtain ⟨b1, b2, b3⟩ := rep_dp 60 e y c2 hy
      exact .inr ⟨_, _, a1, b1, by unfold SeqAt.shaped; rw [a2, decide_eq_true (by omega : d.py.depth ≤ 64)]; rfl, by unfold SeqAt.shaped; rw [b2, decide_eq_true (by omega : e.py.depth ≤ 64)]; rfl, q _ H (.refl _) (fun F => rep_bl) fun F e => Gr.refl e⟩
    · cases hz
theorem opB_ne : OpB S (fun x y H Q => rNe x y H Q ∨ rNeD S.K x y H Q) oNe := by
  intro d e z x y H Q hz hx hy q
  unfold oNe at hz
  split at hz
  · rename_i c
    cases hz
    refine .inl ?_
    rw [hx.fv c.2.1, hy.fv c.2.2]
    exact ⟨c.1, q _ H (.refl _) (fun F => rep_bl) fun F e => Gr.refl e⟩
  · split at hz
    · rename_i c
      cases hz
      obtain ⟨c1, c2⟩ := Bool.and_eq_true_iff.mp c
      obtain ⟨a1, a2, a3⟩ := rep_dp 60 d x c1 hx
      obtain ⟨b1, b2, b3⟩ := rep_dp 60 e y c2 hy
      exact .inr ⟨_, _, a1, b1, by unfold SeqAt.shaped; rw [a2, decide_eq_true (by omega : d.py.depth ≤ 64)]; rfl, by unfold SeqAt.shaped; rw [b2, decide_eq_true (by omega : e.py.depth ≤ 64)]; rfl, q _ H (.refl _) (fun F => rep_bl) fun F e => Gr.refl e⟩
    · cases hz
theorem p_eq {f g : DE} (hr : X.A.units + 64 < cLine) (ha : PE X a (bE S B W f)) (hb : PE X b (bE S B W g)) (hK : S.K = X.K := by rfl) : PE X (.Compare a [.Eq] [b] pos) (sE S B W (bin oEq f g)) :=
  p_cmpB (by rw [hK]; exact OpR.or op_eq (op_eqD hr)) opB_eq ha hb (nomark _)
theorem p_ne {f g : DE} (hr : X.A.units + 64 < cLine) (ha : PE X a (bE S B W f)) (hb : PE X b (bE S B W g)) (hK : S.K = X.K := by rfl) : PE X (.Compare a [.NotEq] [b] pos) (sE S B W (bin oNe f g)) :=
  p_cmpB (by rw [hK]; exact OpR.or op_ne (op_neD hr)) opB_ne ha hb (nomark _)

/-! ### in, not in -/
def keyOf : D → Option Key
  | .int i => some (.inl i)
  | .str s => some (.inr s)
  | _ => none
theorem keyOf_v {F : Hp} {d : D} {k : Key} {v : V} (h : keyOf d = some k) (r : Rep S F d v) : v = kV k := by
  unfold keyOf at h
  split at h
  · cases h; rw [rep_int_inv r]; rfl
  · cases h; rw [rep_str_inv r]; rfl
  · cases h
/-- one flat thing among flat things -/
def memD (d : D) (xs : List D) : Bool := inV d.fv (xs.map D.fv)
def flatL (xs : List D) : Bool := xs.all fun d => d.flat && flatV d.fv
theorem reps_fv {F : Hp} : ∀ {xs : List D} {vs : List V}, Reps S F xs vs → flatL xs = true → vs = xs.map D.fv ∧ vs.all flatV = true
  | [], vs, h, _ => by rw [reps_nil_inv h]; exact ⟨rfl, rfl⟩
  | d :: ds, vs, h, f => by
    obtain ⟨v, r, rfl, h1, h2⟩ := reps_cons_inv h
    unfold flatL at f
    rw [List.all_cons, Bool.and_eq_true_iff] at f
    obtain ⟨f1, f2⟩ := f
    obtain ⟨f1, f3⟩ := Bool.and_eq_true_iff.mp f1
    obtain ⟨e1, e2⟩ := reps_fv h2 f2
    rw [h1.fv f1]
    refine ⟨by rw [e1]; rfl, ?_⟩
    rw [List.all_cons, f3, e2]
    rfl
def look (ks : List Key) (xs : List D) (k : Key) : Option D := ((ks.zip xs).find? fun p => decide (p.1 = k)).map (·.2)
theorem look_v {F : Hp} {k : Key} : ∀ {kvs : List (Key × V)} {xs : List D}, Reps S F xs (kvs.map (·.2)) → (∀ v, valV kvs k = some v → ∃ d, look (kvs.map (·.1)) xs k = some d ∧ Rep S F d v) ∧ (valV kvs k = none → look (kvs.map (·.1)) xs k = none)
  | [], xs, h => ⟨fun v e => by simp [valV] at e, fun _ => by simp [look]⟩
  | (j, w) :: r, xs, h => by
    cases xs with
    | nil => have := reps_nil_inv h; simp at this
    | cons d ds =>
      obtain ⟨v', r', e, h1, h2⟩ := reps_cons_inv h
      simp only [List.map_cons] at e
      injection e with e1 e2
      subst e1 e2
      obtain ⟨i1, i2⟩ := look_v h2
      by_cases c : j = k
      · subst c
        refine ⟨fun v e => ?_, fun e => ?_⟩
        · simp [valV] at e
          subst e
          exact ⟨d, by simp [look], h1⟩
        · simp [valV] at e
      · have e1 : valV ((j, w) :: r) k = valV r k := by simp [valV, List.find?_cons, c]
        have e2 : look (((j, w) :: r).map (·.1)) (d :: ds) k = look (r.map (·.1)) ds k := by simp [look, List.find?_cons, c]
        rw [e1, e2]
        exact ⟨i1, i2⟩
theorem look_some {F : Hp} {k : Key} {kvs : List (Key × V)} {xs : List D} (h : Reps S F xs (kvs.map (·.2))) : (valV kvs k).isSome = (look (kvs.map (·.1)) xs k).isSome := by
  obtain ⟨h1, h2⟩ := look_v (k := k) h
  cases e : valV kvs k with
  | none => rw [h2 e]; rfl
  | some v => obtain ⟨d, q, _⟩ := h1 v e; rw [q]; rfl
/-- a text in a text -/
def strIn (i j : Str) : Bool := !(Builtin.Str.occurrences j i 0 j.length 1).isEmpty
def inD : D → D → Option Bool
  | d, .lst xs => if d.flat && flatV d.fv && flatL xs then some (memD d xs) else none
  | d, .tup xs => if d.flat && flatV d.fv && flatL xs then some (memD d xs) else none
  | .str i, .str j => some (strIn i j)
  | d, .dct ks xs => (keyOf d).map fun k => (look ks xs k).isSome
  | _, _ => none
def oIn : D → D → Option D := fun d e => (inD d e).map .bl
def oNotIn : D → D → Option D := fun d e => (inD d e).map fun b => .bl (!b)
def rInDct : R2 := fun x y H Q => ∃ a o, y = .ref a ∧ DGet H a x o ∧ Q (.bl o.isSome) H
def rNotInDct : R2 := fun x y H Q => ∃ a o, y = .ref a ∧ DGet H a x o ∧ Q (.bl (!o.isSome)) H
theorem op_inDct (hu : X.A.units + 1 < cLine) : OpR X (compareOp .In) rInDct := by
  intro pins s σ H x y v u Q I rx ry h
  obtain ⟨a, o, rfl, g, q⟩ := h
  obtain rfl : u = Value.ref a := ry
  exact d_in hu I g rx fun s3 I3 => ⟨.bl _, H, I3, rfl, q⟩
theorem op_notInDct (hu : X.A.units + 1 < cLine) : OpR X (compareOp .NotIn) rNotInDct := by
  intro pins s σ H x y v u Q I rx ry h
  obtain ⟨a, o, rfl, g, q⟩ := h
  obtain rfl : u = Value.ref a := ry
  exact d_notIn hu I g rx fun s3 I3 => ⟨.bl _, H, I3, rfl, q⟩
def rInAll (K : PySem.W.Frag) : R2 := fun x y H Q => rIn K false x y H Q ∨ (∃ i j, x = .str i ∧ y = .str j ∧ Q (.bl (!(Builtin.Str.occurrences j i 0 j.length 1).isEmpty)) H) ∨ rInDct x y H Q
def rNotInAll (K : PySem.W.Frag) : R2 := fun x y H Q => rIn K true x y H Q ∨ (∃ i j, x = .str i ∧ y = .str j ∧ Q (.bl (!(!(Builtin.Str.occurrences j i 0 j.length 1).isEmpty))) H) ∨ rNotInDct x y H Q
theorem inD_cases {d e : D} {b : Bool} {x y : V} {H : Hp} (hz : inD d e = some b) (hx : Rep S H d x) (hy : Rep S H e y) : (∃ p xs, y = .ref p ∧ (SqL S.K H p xs ∨ SqT S.K H p xs) ∧ flatV x = true ∧ xs.all flatV = true ∧ inV x xs = b) ∨
    (∃ i j, x = .str i ∧ y = .str j ∧ strIn i j = b) ∨ ∃ a o, y = .ref a ∧ DGet H a x o ∧ o.isSome = b := by
  unfold inD at hz
  split at hz
  · split at hz
    · rename_i c
      cases hz
      simp only [Bool.and_eq_true] at c
      obtain ⟨p, vs, rfl, h1, h2⟩ := rep_lst_inv hy
      obtain ⟨e1, e2⟩ := reps_fv h2 c.2
      exact .inl ⟨p, vs, rfl, .inl (SqL.of h1), by rw [hx.fv c.1.1]; exact c.1.2, e2, by rw [hx.fv c.1.1, e1]; rfl⟩
    · cases hz
  · split at hz
    · rename_i c
      cases hz
      simp only [Bool.and_eq_true] at c
      obtain ⟨p, vs, rfl, h1, h2⟩ := rep_tup_inv hy
      obtain ⟨e1, e2⟩ := reps_fv h2 c.2
      exact .inl ⟨p, vs, rfl, .inr (SqT.of h1), by rw [hx.fv c.1.1]; exact c.1.2, e2, by rw [hx.fv c.1.1, e1]; rfl⟩
    · cases hz
  · cases hz
    exact .inr (.inl ⟨_, _, rep_str_inv hx, rep_str_inv hy, rfl⟩)
  · rename_i ks xs
    cases hk : keyOf d with
    | none => rw [hk] at hz; cases hz
    | some k =>
      rw [hk] at hz
      cases hz
      obtain ⟨a, kvs, rfl, h1, rfl, h3⟩ := rep_dct_inv hy
      exact .inr (.inr ⟨a, _, rfl, by rw [keyOf_v hk hx]; exact DGet.k h1, look_some h3⟩)
  · cases hz
theorem opB_in : OpB S (rInAll S.K) oIn := by
  intro d e z x y H Q hz hx hy q
  unfold oIn at hz
  cases hb : inD d e with
  | none => rw [hb] at hz; cases hz
  | some b =>
    rw [hb] at hz
    cases hz
    have qq : Q (.bl b) H := q _ H (.refl _) (fun F => rep_bl) fun F e => Gr.refl e
    rcases inD_cases hb hx hy with ⟨p, xs, h1, h2, h3, h4, h5⟩ | ⟨i, j, h1, h2, h3⟩ | ⟨a, o, h1, h2, h3⟩
    · exact .inl ⟨p, xs, h1, h2, h3, h4, by rw [if_neg Bool.false_ne_true, h5]; exact qq⟩
    · exact .inr (.inl ⟨i, j, h1, h2, by rw [← h3] at qq; exact qq⟩)
    · exact .inr (.inr ⟨a, o, h1, h2, by rw [h3]; exact qq⟩)
theorem opB_notIn : OpB S (rNotInAll S.K) oNotIn := by
  intro d e z x y H Q hz hx hy q
  unfold oNotIn at hz
  cases hb : inD d e with
  | none => rw [hb] at hz; cases hz
  | some b =>
    rw [hb] at hz
    cases hz
    have qq : Q (.bl (!b)) H := q _ H (.refl _) (fun F => rep_bl) fun F e => Gr.refl e
    rcases inD_cases hb hx hy with ⟨p, xs, h1, h2, h3, h4, h5⟩ | ⟨i, j, h1, h2, h3⟩ | ⟨a, o, h1, h2, h3⟩
    · exact .inl ⟨p, xs, h1, h2, h3, h4, by rw [if_pos rfl, h5]; exact qq⟩
    · exact .inr (.inl ⟨i, j, h1, h2, by rw [← h3] at qq; exact qq⟩)
    · exact .inr (.inr ⟨a, o, h1, h2, by rw [h3]; exact qq⟩)
theorem p_in {f g : DE} (hu : X.A.units + 1 < cLine) (ha : PE X a (bE S B W f)) (hb : PE X b (bE S B W g)) (hk : behindInMarks .In b = false := by rfl) (hK : S.K = X.K := by rfl) : PE X (.Compare a [.In] [b] pos) (sE S B W (bin oIn f g)) :=
  p_cmpB (by rw [hK]; exact OpR.or op_in_seq (OpR.or op_in_str (op_inDct hu))) opB_in ha hb hk
theorem p_notIn {f g : DE} (hu : X.A.units + 1 < cLine) (ha : PE X a (bE S B W f)) (hb : PE X b (bE S B W g)) (hk : behindInMarks .NotIn b = false := by rfl) (hK : S.K = X.K := by rfl) : PE X (.Compare a [.NotIn] [b] pos) (sE S B W (bin oNotIn f g)) :=
  p_cmpB (by rw [hK]; exact OpR.or op_notIn_seq (OpR.or L2.op_notin_str (op_notInDct hu))) opB_notIn ha hb hk
end
end Vi

/-! Vi4: places, slices, displays, tests, calls of what is built in, attributes. -/
namespace Vi
open PySem PySem.Spec PyProof.Rows L2
/-- the thing itself may be one's own, its items are shared -/
def RepI (S : Sg) (F H : Hp) (d : D) (v : V) : Prop := Rep S F d v ∨ (∃ a xs vs, d = .lst xs ∧ v = .ref a ∧ H a = some (.lst vs) ∧ Reps S F xs vs) ∨
  ∃ a xs kvs, d = .dct (kvs.map (·.1)) xs ∧ v = .ref a ∧ H a = some (.dK kvs) ∧ Reps S F xs (kvs.map (·.2))
abbrev iE (S : Sg) (B : Bs) (W : WX) (f : DE) : TE := tG S B W (RepI S) f
section
variable {S : Sg} {F H F' H' : Hp}
theorem RepI.mono {d : D} {v : V} (g : Gr F H F' H') (h : RepI S F H d v) : RepI S F' H' d v := by
  rcases h with h | ⟨a, xs, vs, h1, h2, h3, h4⟩ | ⟨a, xs, kvs, h1, h2, h3, h4⟩
  · exact .inl (h.mono g.f)
  · exact .inr (.inl ⟨a, xs, vs, h1, h2, g.h _ _ h3, h4.mono g.f⟩)
  · exact .inr (.inr ⟨a, xs, kvs, h1, h2, g.h _ _ h3, h4.mono g.f⟩)
theorem RepI.b {d : D} {v : V} (e : Ex F H) (h : RepI S F H d v) : Rep S H d v := by
  rcases h with h | ⟨a, xs, vs, rfl, rfl, h3, h4⟩ | ⟨a, xs, kvs, rfl, rfl, h3, h4⟩
  · exact h.mono e
  · exact rep_lst h3 (h4.mono e)
  · simp only [Rep]
    exact ⟨a, kvs, rfl, h3, rfl, h4.mono e⟩
theorem RepI.lst {xs : List D} {v : V} (e : Ex F H) (h : RepI S F H (.lst xs) v) : ∃ a vs, v = .ref a ∧ H a = some (.lst vs) ∧ Reps S F xs vs := by
  rcases h with h | ⟨a, ys, vs, q, h2, h3, h4⟩ | ⟨a, ys, kvs, q, _⟩
  · obtain ⟨a, vs, h1, h2, h3⟩ := rep_lst_inv h
    exact ⟨a, vs, h1, e _ _ h2, h3⟩
  · cases q
    exact ⟨a, vs, h2, h3, h4⟩
  · cases q
theorem RepI.dct {ks : List Key} {xs : List D} {v : V} (e : Ex F H) (h : RepI S F H (.dct ks xs) v) : ∃ a kvs, v = .ref a ∧ H a = some (.dK kvs) ∧ kvs.map (·.1) = ks ∧ Reps S F xs (kvs.map (·.2)) := by
  rcases h with h | ⟨a, ys, vs, q, _⟩ | ⟨a, ys, kvs, q, h2, h3, h4⟩
  · obtain ⟨a, vs, h1, h2, h3, h4⟩ := rep_dct_inv h
    exact ⟨a, vs, h1, e _ _ h2, h3, h4⟩
  · cases q
  · cases q
    exact ⟨a, kvs, h2, h3, rfl, h4⟩
theorem RepI.sh {d : D} {v : V} (h : RepI S F H d v) (n : ∀ xs, d ≠ .lst xs) (m : ∀ ks xs, d ≠ .dct ks xs) : Rep S F d v := by
  rcases h with h | ⟨a, ys, vs, q, _⟩ | ⟨a, ys, kvs, q, h2, h3, h4⟩
  · exact h
  · exact absurd q (n _)
  · exact absurd q (m _ _)
end
section
variable {X : Cx} {S : Sg} {B : Bs} {W : WX} {e a b c : Expr} {es : List Expr} {pos : Pos}
theorem imp_rep {α υ : Type} {rep rep' : Hp → Hp → α → υ → Prop} {f : Store → R α} {σ : SS} {H : Hp} {Q : υ → Hp → Prop} (k : ∀ F H a v, Ex F H → rep F H a v → rep' F H a v) (h : tG S B W rep' f σ H Q) : tG S B W rep f σ H Q := by
  obtain ⟨F, ρ, rel, q⟩ := h
  refine ⟨F, ρ, rel, ?_⟩
  cases r : f ρ with
  | ok d =>
    rw [r] at q
    exact fun v F' H' g x => q v F' H' g (k F' H' d v g.fh x)
  | er c =>
    rw [r] at q
    exact q
  | bad =>
    rw [r] at q
    exact q
theorem p_si {f : DE} (h : PE X e (sE S B W f)) : PE X e (iE S B W f) := pe_imp h fun σ H Q q => imp_rep (fun _ _ _ _ _ r => .inl r) q
theorem p_ib {f : DE} (h : PE X e (iE S B W f)) : PE X e (bE S B W f) := pe_imp h fun σ H Q q => imp_rep (fun _ _ _ _ x r => r.b x) q
theorem p_o (i : Nat) {x : Str} (hN : X.N[i]? = some x := by rfl) (hv : Vis X.env.scope x := by first | exact Or.inl rfl | exact Or.inr (Or.inl rfl) | exact Or.inr (Or.inr rfl)) (hd : (x == ("__debug__" : Str)) = false := by decide)
    (hcd : (x == ("__classdict__" : Str)) = false := by decide) : PE X (.Name x pos) (iE S B W (bD i)) := pe_imp (pv i hN hv hd hcd) fun σ H Q ⟨F, ρ, rel, q⟩ => by
  unfold bD at q
  split at q
  · rename_i d e
    obtain ⟨v, h1, h2⟩ := rel.sh_inv e
    exact ⟨v, sl_get h1, q v F H (Gr.refl rel.fh) (.inl h2)⟩
  · rename_i xs e
    obtain ⟨p, vs, h1, h2, h3, _⟩ := rel.ol_inv e
    exact ⟨.ref p, sl_get h1, q _ F H (Gr.refl rel.fh) (.inr (.inl ⟨p, xs, vs, rfl, rfl, h2, h3⟩))⟩
  · rename_i ks xs e
    obtain ⟨p, kvs, h1, h2, h3, h4, _⟩ := rel.od_inv e
    subst h3
    exact ⟨.ref p, sl_get h1, q _ F H (Gr.refl rel.fh) (.inr (.inr ⟨p, xs, kvs, rfl, rfl, h2, h4⟩))⟩
  · exact q.elim
theorem p_ob (i : Nat) {x : Str} (hN : X.N[i]? = some x := by rfl) (hv : Vis X.env.scope x := by first | exact Or.inl rfl | exact Or.inr (Or.inl rfl) | exact Or.inr (Or.inr rfl)) (hd : (x == ("__debug__" : Str)) = false := by decide)
    (hcd : (x == ("__classdict__" : Str)) = false := by decide) : PE X (.Name x pos) (bE S B W (bD i)) := p_ib (p_o i hN hv hd hcd)

/-! ### places -/
def ixD : D → D → Option D
  | .lst xs, .int i => atI xs i
  | .tup xs, .int i => atI xs i
  | .scr ns, .int i => (atI ns i).map .int
  | .str z, .int i => if small z.length = true then (atI z.cps.toList i).map fun c => .str ⟨#[c]⟩ else none
  | _, _ => none
theorem reps_atI {F : Hp} {xs : List D} {vs : List V} {i : Int} {d : D} (h : Reps S F xs vs) (q : atI xs i = some d) : ∃ v, atI vs i = some v ∧ Rep S F d v := by
  unfold atI at q ⊢
  rw [← h.length]
  cases e : ixN xs.length i with
  | none => rw [e] at q; cases q
  | some j =>
    rw [e] at q
    exact h.get q
theorem map_atI {ns : List Int} {i n : Int} (q : atI ns i = some n) : atI (ns.map V.int) i = some (.int n) := by
  unfold atI at q ⊢
  rw [List.length_map]
  cases e : ixN ns.length i with
  | none => rw [e] at q; cases q
  | some j =>
    rw [e] at q
    show (ns.map V.int)[j]? = _
    rw [List.getElem?_map, show ns[j]? = some n from q]
    rfl
theorem ix_ok {d e z : D} {x y : V} {F H : Hp} {Q : VK} (ex : Ex F H) (hz : ixD d e = some z) (hx : RepI S F H d x) (hy : Rep S F e y) (q : ∀ v, Rep S F z v → Q v H) : rIx S.K x y H Q := by
  unfold ixD at hz
  split at hz
  · obtain ⟨p, vs, rfl, h1, h2⟩ := hx.lst ex
    obtain ⟨v, h3, h4⟩ := reps_atI h2 hz
    exact .inl ⟨p, vs, _, v, rfl, rep_int_inv hy, SqL.of h1, h3, q v h4⟩
  · obtain ⟨p, vs, rfl, h1, h2⟩ := rep_tup_inv (hx.sh (fun _ z => nomatch z) fun _ _ z => nomatch z)
    obtain ⟨v, h3, h4⟩ := reps_atI h2 hz
    exact .inr (.inl ⟨p, vs, _, v, rfl, rep_int_inv hy, SqT.of (ex _ _ h1), h3, q v h4⟩)
  · rename_i ns i
    obtain ⟨p, rfl, h1⟩ := rep_scr_inv (hx.sh (fun _ z => nomatch z) fun _ _ z => nomatch z)
    cases hn : atI ns i with
    | none => rw [hn] at hz; cases hz
    | some n =>
      rw [hn] at hz
      cases hz
      exact .inl ⟨p, _, _, _, rfl, rep_int_inv hy, ex.sqL h1, map_atI hn, q _ rep_int⟩
  · rename_i s i
    split at hz
    · rename_i c
      cases hn : atI s.cps.toList i with
      | none => rw [hn] at hz; cases hz
      | some n =>
        rw [hn] at hz
        cases hz
        have hs := rep_str_inv (hx.sh (fun _ z => nomatch z) fun _ _ z => nomatch z)
        exact .inr (.inr ⟨s, _, n, hs, rep_int_inv hy, small_le c, hn, q _ rep_str⟩)
    · cases hz
  · cases hz
theorem p_ix {f g : DE} (ha : PE X a (iE S B W f)) (hb : PE X b (sE S B W g)) (hs : PlainIx b := by intro _ _; rfl) (hK : S.K = X.K := by rfl) : PE X (.Subscript a b pos) (sE S B W (bin ixD f g)) :=
  pe_imp (pe_ix (r := rIx S.K) (by rw [hK]; exact ix_seq) ha hb hs) fun σ H Q ⟨F, ρ, rel, q⟩ => by
  refine bindG rel q fun d x F1 H1 _ g1 r1 q1 => bindG (rel.grow g1) q1 fun e' y F2 H2 _ g2 r2 q2 => ?_
  obtain ⟨z, h1, h2⟩ := endG q2
  exact ix_ok g2.fh h1 (RepI.mono g2 r1) r2 fun v r => h2 v F2 H2 (Gr.refl g2.fh) r
/-- d[k], d a dict -/
def getD : D → D → Option D
  | .dct ks xs, d => (keyOf d).bind fun k => look ks xs k
  | _, _ => none
theorem p_dget {f g : DE} (hu : X.A.units + 1 < cLine) (ha : PE X a (iE S B W f)) (hb : PE X b (sE S B W g)) (hs : NoSl b := by intro _ _; rfl) : PE X (.Subscript a b pos) (sE S B W (bin getD f g)) :=
  pe_imp (pe_dget hu ha hb hs) fun σ H Q ⟨F, ρ, rel, q⟩ => by
  refine bindG rel q fun d x F1 H1 _ g1 r1 q1 => bindG (rel.grow g1) q1 fun e' y F2 H2 _ g2 r2 q2 => ?_
  obtain ⟨z, h1, h2⟩ := endG q2
  cases d with
  | dct ks xs =>
    have h1 : ((keyOf e').bind fun k => look ks xs k) = some z := h1
    cases hk : keyOf e' with
    | none => rw [hk] at h1; cases h1
    | some k =>
      rw [hk] at h1
      obtain ⟨p, kvs, rfl, h3, rfl, h4⟩ := (RepI.mono g2 r1).dct g2.fh
      cases hv : valV kvs k with
      | none =>
        have := (look_v (k := k) h4).2 hv
        rw [show look (kvs.map (·.1)) xs k = some z from h1] at this
        cases this
      | some v =>
        obtain ⟨d', h5, h6⟩ := (look_v (k := k) h4).1 v hv
        rw [show look (kvs.map (·.1)) xs k = some z from h1] at h5
        cases h5
        exact ⟨p, v, rfl, by rw [keyOf_v hk r2, ← hv]; exact DGet.k h3, h2 v F2 H2 (Gr.refl g2.fh) h6⟩
  | _ => cases h1

/-! ### slices -/
def oPart (f : DE) : Store → R (Option Int) := fun ρ => (f ρ).bind fun d => match d with
  | .int i => .ok (some i)
  | _ => .bad
def oNoPart : Store → R (Option Int) := fun _ => .ok none
theorem p_some {f : DE} (h : PE X e (sE S B W f)) : PO X (some e) (sO S B W (oPart f)) := po_imp (po_some h) fun σ H Q ⟨F, ρ, rel, q⟩ => by
  refine bindG rel q fun d x F1 H1 _ g1 r1 q1 => ?_
  cases d with
  | int i => exact ⟨i, rep_int_inv r1, q1 _ F1 H1 (Gr.refl g1.fh) rfl⟩
  | _ => exact q1.elim
theorem p_none : PO X none (sO S B W oNoPart) := po_imp po_none fun σ H Q ⟨F, ρ, rel, q⟩ => q _ F H (Gr.refl rel.fh) rfl
def cutL {α : Type} (xs : List α) (lo hi : Option Int) : List α := (xs.drop (HT.sIx xs.length 0 lo)).take (HT.sIx xs.length xs.length hi - HT.sIx xs.length 0 lo)
def cutD (lo hi : Option Int) : D → Option D
  | .lst xs => some (.lst (cutL xs lo hi))
  | .scr ns => some (.lst ((cutL ns lo hi).map .int))
  | .tup xs => if HT.sIx xs.length 0 lo = 0 ∧ HT.sIx xs.length xs.length hi = xs.length then none else some (.tup (cutL xs lo hi))
  | .str z => if small z.length = true then some (.str (cutS z lo hi)) else none
  | _ => none
def slD (f : DE) (l h : Store → R (Option Int)) : DE := fun ρ => (f ρ).bind fun d => (l ρ).bind fun lo => (h ρ).bind fun hi => .of (cutD lo hi d)
theorem reps_cut {F : Hp} {xs : List D} {vs : List V} (h : Reps S F xs vs) (lo hi : Option Int) : Reps S F (cutL xs lo hi) (cutV vs lo hi) := by
  unfold cutL cutV
  rw [← h.length]
  exact (h.drop _).take _
theorem reps_ints {F : Hp} : ∀ ns : List Int, Reps S F (ns.map D.int) (ns.map V.int)
  | [] => reps_nil
  | n :: ns => reps_cons rep_int (reps_ints ns)
def rSlAll (K : PySem.W.Frag) : V → Option Int → Option Int → Hp → VK → Prop := fun x lo hi H Q => rSlL K x lo hi H Q ∨ rSlT K x lo hi H Q ∨ rSlS x lo hi H Q
theorem sl_all : SlR X (rSlAll X.K) := SlR.or sl_list (SlR.or sl_tup sl_str)
theorem cutV_int (ns : List Int) (lo hi : Option Int) : cutV (ns.map V.int) lo hi = (cutL ns lo hi).map V.int := by
  unfold cutV cutL
  rw [List.length_map, List.map_take, List.map_drop]
theorem p_sl {f : DE} {l h : Store → R (Option Int)} {lo hi : Option Expr} {p2 : Pos} (ha : PE X a (iE S B W f)) (hl : PO X lo (sO S B W l)) (hh : PO X hi (sO S B W h)) (hK : S.K = X.K := by rfl) : PE X (.Subscript a (.Slice lo hi none p2) pos) (sE S B W (slD f l h)) :=
  pe_imp (pe_slice (r := rSlAll S.K) (by rw [hK]; exact sl_all) ha hl hh) fun σ H Q ⟨F, ρ, rel, q⟩ => by
  refine bindG rel q fun d x F1 H1 _ g1 r1 q1 => bindG (rel.grow g1) q1 fun lo y F2 H2 _ g2 r2 q2 => bindG ((rel.grow g1).grow g2) q2 fun hi w F3 H3 _ g3 r3 q3 => ?_
  obtain ⟨z, h1, h2⟩ := endG q3
  cases r2
  cases r3
  have r1 := RepI.mono (g2.trans g3) r1
  unfold cutD at h1
  split at h1
  · cases h1
    obtain ⟨p, vs, rfl, h3, h4⟩ := r1.lst g3.fh
    refine .inl ⟨p, vs, rfl, SqL.of h3, fun p' hp => ?_⟩
    have g := Gr.new (o := .lst (cutV vs lo hi)) g3.fh hp
    exact h2 _ _ _ g (rep_lst upd_same ((reps_cut h4 lo hi).mono g.f))
  · cases h1
    obtain ⟨p, rfl, h3⟩ := rep_scr_inv (r1.sh (fun _ z => nomatch z) fun _ _ z => nomatch z)
    refine .inl ⟨p, _, rfl, g3.fh.sqL h3, fun p' hp => ?_⟩
    refine h2 _ _ _ (Gr.new g3.fh hp) (rep_lst upd_same ?_)
    rw [cutV_int]
    exact reps_ints _
  · split at h1
    · cases h1
    · rename_i c
      cases h1
      obtain ⟨p, vs, rfl, h3, h4⟩ := rep_tup_inv (r1.sh (fun _ z => nomatch z) fun _ _ z => nomatch z)
      refine .inr (.inl ⟨p, vs, rfl, SqT.of (g3.fh _ _ h3), by rw [← h4.length]; exact c, fun p' hp => ?_⟩)
      have g := Gr.new (o := .tup (cutV vs lo hi)) g3.fh hp
      exact h2 _ _ _ g (rep_tup upd_same ((reps_cut h4 lo hi).mono g.f))
  · split at h1
    · rename_i c
      cases h1
      have hs := rep_str_inv (r1.sh (fun _ z => nomatch z) fun _ _ z => nomatch z)
      exact .inr (.inr ⟨_, hs, small_le c, h2 _ F3 H3 (Gr.refl g3.fh) rep_str⟩)
    · cases h1
  · cases h1

/-! ### argument lists, displays -/
def nilA : DA := fun _ => .ok []
def consA (f : DE) (g : DA) : DA := fun ρ => (f ρ).bind fun d => (g ρ).bind fun ds => .ok (d :: ds)
theorem a_nil : PA X [] (sA S B W nilA) := pa_imp pa_nil fun σ H Q ⟨F, ρ, rel, q⟩ => q [] F H (Gr.refl rel.fh) reps_nil
theorem a_cons {f : DE} {g : DA} (ha : PE X e (sE S B W f)) (hr : PA X es (sA S B W g)) (hs : starEach (e :: es) X.env = (false, eval e X.env) :: starEach es X.env := by rfl) : PA X (e :: es) (sA S B W (consA f g)) :=
  pa_imp (pa_cons ha hr hs) fun σ H Q ⟨F, ρ, rel, q⟩ => by
  refine bindG rel q fun d x F1 H1 _ g1 r1 q1 => bindG (rel.grow g1) q1 fun ds xs F2 H2 _ g2 r2 q2 => ?_
  exact q2 _ F2 H2 (Gr.refl g2.fh) (reps_cons (Rep.mono g2.f r1) r2)
theorem b_nil : PA X [] (bA S B W nilA) := pa_imp pa_nil fun σ H Q ⟨F, ρ, rel, q⟩ => q [] F H (Gr.refl rel.fh) reps_nil
theorem b_cons {f : DE} {g : DA} (ha : PE X e (bE S B W f)) (hr : PA X es (bA S B W g)) (hs : starEach (e :: es) X.env = (false, eval e X.env) :: starEach es X.env := by rfl) : PA X (e :: es) (bA S B W (consA f g)) :=
  pa_imp (pa_cons ha hr hs) fun σ H Q ⟨F, ρ, rel, q⟩ => by
  refine bindG rel q fun d x F1 H1 _ g1 r1 q1 => bindG (rel.grow g1) q1 fun ds xs F2 H2 _ g2 r2 q2 => ?_
  exact q2 _ F2 H2 (Gr.refl g2.fh) (reps_cons (Rep.mono g2.h r1) r2)
def lstD (g : DA) : DE := fun ρ => (g ρ).bind fun ds => if small ds.length = true then .ok (.lst ds) else .bad
def tupD (g : DA) : DE := fun ρ => (g ρ).bind fun ds => if small ds.length = true then .ok (.tup ds) else .bad
theorem p_lst {g : DA} (h : PA X es (sA S B W g)) : PE X (.List es pos) (sE S B W (lstD g)) := pe_imp (pe_lst h) fun σ H Q ⟨F, ρ, rel, q⟩ => by
  refine bindG rel q fun ds xs F1 H1 _ g1 r1 q1 => ?_
  split at q1
  · rename_i c
    refine ⟨by rw [← r1.length]; exact small_le c, fun p hp => ?_⟩
    have g := Gr.new (o := .lst xs) g1.fh hp
    exact q1 _ _ _ g (rep_lst upd_same (Reps.mono g.f r1))
  · exact q1.elim
theorem p_tup {g : DA} {x1 : Nat} (h : PA X es (sA S B W g)) : PE X (.Tuple es x1 pos) (sE S B W (tupD g)) := pe_imp (pe_tup h) fun σ H Q ⟨F, ρ, rel, q⟩ => by
  refine bindG rel q fun ds xs F1 H1 _ g1 r1 q1 => ?_
  split at q1
  · rename_i c
    refine ⟨by rw [← r1.length]; exact small_le c, fun p hp => ?_⟩
    have g := Gr.new (o := .tup xs) g1.fh hp
    exact q1 _ _ _ g (rep_tup upd_same (Reps.mono g.f r1))
  · exact q1.elim

/-! ### truth -/
def trD : D → R Bool
  | .bl b => .ok b
  | _ => .bad
def tV (f : DE) : DB := fun ρ => (f ρ).bind trD
theorem t_v {f : DE} (h : PE X e (sE S B W f)) (he : ∀ whole, isTrue e X.env whole = (do let v ← whole; standAt e.pos; holding [v] (truthy v)) := by intro _; rfl) : PT X e (sT S B W (tV f)) := pt_imp (pt_val h he) fun σ H Q ⟨F, ρ, rel, q⟩ => by
  refine bindG rel q fun d x F1 H1 _ g1 r1 q1 => ?_
  cases d with
  | bl b => exact ⟨b, rep_bl_inv r1, q1 b F1 H1 (Gr.refl g1.fh) rfl⟩
  | _ => exact q1.elim
def andT (f g : DB) : DB := fun ρ => (f ρ).bind fun b => match b with
  | true => g ρ
  | false => .ok false
def orT (f g : DB) : DB := fun ρ => (f ρ).bind fun b => match b with
  | true => .ok true
  | false => g ρ
def notT (f : DB) : DB := fun ρ => (f ρ).bind fun b => .ok (!b)
theorem t_and1 {f : DB} (ha : PT X a (sT S B W f)) : PW X (.BoolOp .And [a] pos) (sT S B W f) := pw_and1 ha
theorem t_or1 {f : DB} (ha : PT X a (sT S B W f)) : PW X (.BoolOp .Or [a] pos) (sT S B W f) := pw_or1 ha
theorem t_and {f g : DB} (ha : PT X a (sT S B W f)) (hb : PW X (.BoolOp .And (b :: es) pos) (sT S B W g)) : PW X (.BoolOp .And (a :: b :: es) pos) (sT S B W (andT f g)) := pw_imp (pw_and ha hb) fun σ H Q ⟨F, ρ, rel, q⟩ => by
  refine bindG rel q fun d x F1 H1 _ g1 r1 q1 => ?_
  cases r1
  cases d with
  | true => rw [if_pos rfl]; exact ⟨F1, ρ, rel.grow g1, q1⟩
  | false => rw [if_neg Bool.false_ne_true]; exact q1 _ F1 H1 (Gr.refl g1.fh) rfl
theorem t_or {f g : DB} (ha : PT X a (sT S B W f)) (hb : PW X (.BoolOp .Or (b :: es) pos) (sT S B W g)) : PW X (.BoolOp .Or (a :: b :: es) pos) (sT S B W (orT f g)) := pw_imp (pw_or ha hb) fun σ H Q ⟨F, ρ, rel, q⟩ => by
  refine bindG rel q fun d x F1 H1 _ g1 r1 q1 => ?_
  cases r1
  cases d with
  | false => rw [if_neg Bool.false_ne_true]; exact ⟨F1, ρ, rel.grow g1, q1⟩
  | true => rw [if_pos rfl]; exact q1 _ F1 H1 (Gr.refl g1.fh) rfl
theorem t_w {f : DB} (h : PW X e (sT S B W f)) : PT X e (sT S B W f) := h.pt
theorem t_not {f : DB} (ha : PT X a (sT S B W f)) : PT X (.UnaryOp .Not a pos) (sT S B W (notT f)) := pt_imp (pt_not ha) fun σ H Q ⟨F, ρ, rel, q⟩ => by
  refine bindG rel q fun d x F1 H1 _ g1 r1 q1 => ?_
  cases r1
  exact q1 _ F1 H1 (Gr.refl g1.fh) rfl
/-- .. as values -/
def andV (f g : DE) : DE := fun ρ => (f ρ).bind fun d => match d with
  | .bl true => g ρ
  | .bl false => .ok (.bl false)
  | _ => .bad
def orV (f g : DE) : DE := fun ρ => (f ρ).bind fun d => match d with
  | .bl true => .ok (.bl true)
  | .bl false => g ρ
  | _ => .bad
def oNot : D → Option D
  | .bl b => some (.bl (!b))
  | _ => none
theorem v_one {op : BoolOp} {f : DE} (h : PE X a (sE S B W f)) : PE X (.BoolOp op [a] pos) (sE S B W f) := pe_one h
theorem v_and {f g : DE} (ha : PE X a (sE S B W f)) (hb : PE X (.BoolOp .And (b :: es) pos) (sE S B W g)) : PE X (.BoolOp .And (a :: b :: es) pos) (sE S B W (andV f g)) := pe_imp (pe_and ha hb) fun σ H Q ⟨F, ρ, rel, q⟩ => by
  refine bindG rel q fun d x F1 H1 _ g1 r1 q1 => ?_
  split at q1
  · exact ⟨true, rep_bl_inv r1, by rw [if_pos rfl]; exact ⟨F1, ρ, rel.grow g1, q1⟩⟩
  · exact ⟨false, rep_bl_inv r1, by rw [if_neg Bool.false_ne_true]; exact q1 _ F1 H1 (Gr.refl g1.fh) rep_bl⟩
  · exact q1.elim
theorem v_or {f g : DE} (ha : PE X a (sE S B W f)) (hb : PE X (.BoolOp .Or (b :: es) pos) (sE S B W g)) : PE X (.BoolOp .Or (a :: b :: es) pos) (sE S B W (orV f g)) := pe_imp (pe_or ha hb) fun σ H Q ⟨F, ρ, rel, q⟩ => by
  refine bindG rel q fun d x F1 H1 _ g1 r1 q1 => ?_
  split at q1
  · exact ⟨true, rep_bl_inv r1, by rw [if_pos rfl]; exact q1 _ F1 H1 (Gr.refl g1.fh) rep_bl⟩
  · exact ⟨false, rep_bl_inv r1, by rw [if_neg Bool.false_ne_true]; exact ⟨F1, ρ, rel.grow g1, q1⟩⟩
  · exact q1.elim
theorem v_not {f : DE} (ha : PE X a (sE S B W f)) : PE X (.UnaryOp .Not a pos) (sE S B W (un oNot f)) := pe_imp (pe_not ha) fun σ H Q ⟨F, ρ, rel, q⟩ => by
  refine bindG rel q fun d x F1 H1 _ g1 r1 q1 => ?_
  obtain ⟨z, h1, h2⟩ := endG q1
  cases d with
  | bl b => cases h1; exact ⟨b, rep_bl_inv r1, h2 _ F1 H1 (Gr.refl g1.fh) rep_bl⟩
  | _ => cases h1

/-! ### what is built in -/
section
variable {x : Str} {p : Pos} {id T : String} {r : List V → Hp → VK → Prop} {f g : DE}
theorem p_fnF {m : D → Option D} (hc : CallR X (.builtin id) r) (hr : ∀ d z v H Q, m d = some z → Rep S H d v → z.flat = true ∧ (Q z.fv H → r [v] H Q)) (ha : PE X e (bE S B W f)) (hm : X.mg x = none) (hv : bootBuiltins x = some (.builtin id)) (hg : Gl X x := by rfl) (hn : x ≠ "__name__" := by decide)
    (hdb : (x == ("__debug__" : Str)) = false := by decide) (he : starEach (e :: []) X.env = (false, eval e X.env) :: starEach [] X.env := by rfl) (hpl : (backTo pos (starEach [] X.env)).any (·.1) = false := by rfl) : PE X (.Call (.Name x p) [e] [] pos) (sE S B W (un m f)) :=
  pe_imp (pe_callB hc hg hm hv (pa_cons ha pa_nil he) hn hdb he hpl) fun σ H Q ⟨F, ρ, rel, q⟩ => by
  refine bindG rel q fun d x F1 H1 _ g1 r1 q1 => ?_
  obtain ⟨z, h1, h2⟩ := endG q1
  obtain ⟨h3, h4⟩ := hr d z x H1 Q h1 r1
  exact h4 (h2 _ F1 H1 (Gr.refl g1.fh) (rep_fv h3))
theorem p_tyF {m : D → Option D} (hc : CallR X (.type T) r) (hr : ∀ d z v H Q, m d = some z → Rep S H d v → z.flat = true ∧ (Q z.fv H → r [v] H Q)) (ha : PE X e (bE S B W f)) (hm : X.mg x = none) (hv : bootBuiltins x = some (.type T)) (hg : Gl X x := by rfl) (hn : x ≠ "__name__" := by decide)
    (hdb : (x == ("__debug__" : Str)) = false := by decide) (he : starEach (e :: []) X.env = (false, eval e X.env) :: starEach [] X.env := by rfl) (hpl : (backTo pos (starEach [] X.env)).any (·.1) = false := by rfl) : PE X (.Call (.Name x p) [e] [] pos) (sE S B W (un m f)) :=
  pe_imp (pe_callTy hc hg hm hv (pa_cons ha pa_nil he) hn hdb he hpl) fun σ H Q ⟨F, ρ, rel, q⟩ => by
  refine bindG rel q fun d x F1 H1 _ g1 r1 q1 => ?_
  obtain ⟨z, h1, h2⟩ := endG q1
  obtain ⟨h3, h4⟩ := hr d z x H1 Q h1 r1
  exact h4 (h2 _ F1 H1 (Gr.refl g1.fh) (rep_fv h3))
theorem p_tyS {m : D → Option D} (hc : CallR X (.type T) r) (hr : ∀ d z v F H Q, Ex F H → m d = some z → RepI S F H d v → (∀ w F' H', Gr F H F' H' → Rep S F' z w → Q w H') → r [v] H Q) (ha : PE X e (iE S B W f)) (hm : X.mg x = none) (hv : bootBuiltins x = some (.type T)) (hg : Gl X x := by rfl) (hn : x ≠ "__name__" := by decide)
    (hdb : (x == ("__debug__" : Str)) = false := by decide) (he : starEach (e :: []) X.env = (false, eval e X.env) :: starEach [] X.env := by rfl) (hpl : (backTo pos (starEach [] X.env)).any (·.1) = false := by rfl) : PE X (.Call (.Name x p) [e] [] pos) (sE S B W (un m f)) :=
  pe_imp (pe_callTy hc hg hm hv (pa_cons ha pa_nil he) hn hdb he hpl) fun σ H Q ⟨F, ρ, rel, q⟩ => by
  refine bindG rel q fun d x F1 H1 _ g1 r1 q1 => ?_
  obtain ⟨z, h1, h2⟩ := endG q1
  exact hr d z x F1 H1 Q g1.fh h1 r1 h2
def lenD : D → Option D
  | .lst xs => some (.int xs.length)
  | .tup xs => some (.int xs.length)
  | .scr ns => some (.int ns.length)
  | .str z => if small z.length = true then some (.int z.length) else none
  | _ => none
theorem p_len (ha : PE X e (bE S B W f)) (hm : X.mg "len" = none) (hK : S.K = X.K := by rfl) (he : starEach (e :: []) X.env = (false, eval e X.env) :: starEach [] X.env := by rfl) (hpl : (backTo pos (starEach [] X.env)).any (·.1) = false := by rfl) (hg : Gl X "len" := by rfl) : PE X (.Call (.Name "len" p) [e] [] pos) (sE S B W (un lenD f)) :=
  p_fnF (call_len) (fun d z v H Q hz hv => by
    unfold lenD at hz
    rw [← hK]
    split at hz
    · cases hz
      obtain ⟨a, vs, rfl, h1, h2⟩ := rep_lst_inv hv
      exact ⟨rfl, fun q => ⟨_, _, rfl, .inl ⟨vs, SqL.of h1, rfl⟩, by rw [← h2.length]; exact q⟩⟩
    · cases hz
      obtain ⟨a, vs, rfl, h1, h2⟩ := rep_tup_inv hv
      exact ⟨rfl, fun q => ⟨_, _, rfl, .inr ⟨vs, SqT.of h1, rfl⟩, by rw [← h2.length]; exact q⟩⟩
    · cases hz
      obtain ⟨a, rfl, h1⟩ := rep_scr_inv hv
      exact ⟨rfl, fun q => ⟨_, _, rfl, .inl ⟨_, h1, rfl⟩, by rw [List.length_map]; exact q⟩⟩
    · split at hz
      · rename_i c
        cases hz
        rw [rep_str_inv hv]
        exact ⟨rfl, fun q => ⟨_, _, rfl, ⟨small_le c, rfl⟩, q⟩⟩
      · cases hz
    · cases hz) ha hm boot_len hg (by decide) (by decide) he hpl
/-- the ints of a list of ints -/
def intsOf : List D → Option (List Int)
  | [] => some []
  | .int i :: r => (intsOf r).map (i :: ·)
  | _ :: _ => none
theorem intsOf_rep {F : Hp} : ∀ {xs : List D} {vs : List V} {ns : List Int}, Reps S F xs vs → intsOf xs = some ns → vs = ns.map V.int
  | [], vs, ns, h, e => by cases e; exact reps_nil_inv h
  | d :: r, vs, ns, h, e => by
    obtain ⟨v, w, rfl, h1, h2⟩ := reps_cons_inv h
    cases d with
    | int i =>
      unfold intsOf at e
      cases q : intsOf r with
      | none => rw [q] at e; cases e
      | some ms =>
        rw [q] at e
        cases e
        rw [rep_int_inv h1, intsOf_rep h2 q]
        rfl
    | _ => cases e
def listInts : D → Option (List Int)
  | .lst xs => intsOf xs
  | .scr ns => some ns
  | _ => none
theorem listInts_sq {H : Hp} {d : D} {v : V} {ns : List Int} (h : listInts d = some ns) (r : Rep S H d v) : ∃ a, v = .ref a ∧ SqL S.K H a (ns.map V.int) := by
  unfold listInts at h
  split at h
  · obtain ⟨a, vs, rfl, h1, h2⟩ := rep_lst_inv r
    rw [intsOf_rep h2 h] at h1
    exact ⟨a, rfl, SqL.of h1⟩
  · cases h
    exact rep_scr_inv r
  · cases h
def maxI : List Int → Int
  | [] => 0
  | [n] => n
  | n :: m :: r => max n (maxI (m :: r))
def minI : List Int → Int
  | [] => 0
  | [n] => n
  | n :: m :: r => min n (minI (m :: r))
theorem maxI_le : ∀ {ns : List Int} {y : Int}, y ∈ ns → y ≤ maxI ns
  | [n], y, h => by simp at h; subst h; exact Int.le_refl _
  | n :: m :: r, y, h => by
    rcases List.mem_cons.mp h with h | h
    · subst h; exact Int.le_max_left _ _
    · exact Int.le_trans (maxI_le h) (Int.le_max_right _ _)
theorem minI_le : ∀ {ns : List Int} {y : Int}, y ∈ ns → minI ns ≤ y
  | [n], y, h => by simp at h; subst h; exact Int.le_refl _
  | n :: m :: r, y, h => by
    rcases List.mem_cons.mp h with h | h
    · subst h; exact Int.min_le_left _ _
    · exact Int.le_trans (Int.min_le_right _ _) (minI_le h)
theorem maxI_mem : ∀ {ns : List Int}, ns ≠ [] → maxI ns ∈ ns
  | [], h => absurd rfl h
  | [n], _ => by simp [maxI]
  | n :: m :: r, _ => by
    have i := maxI_mem (ns := m :: r) (by simp)
    unfold maxI
    rcases Int.le_total n (maxI (m :: r)) with h | h
    · rw [Int.max_eq_right h]; exact List.mem_cons_of_mem _ i
    · rw [Int.max_eq_left h]; exact List.mem_cons_self
theorem minI_mem : ∀ {ns : List Int}, ns ≠ [] → minI ns ∈ ns
  | [], h => absurd rfl h
  | [n], _ => by simp [minI]
  | n :: m :: r, _ => by
    have i := minI_mem (ns := m :: r) (by simp)
    unfold minI
    rcases Int.le_total n (minI (m :: r)) with h | h
    · rw [Int.min_eq_left h]; exact List.mem_cons_self
    · rw [Int.min_eq_right h]; exact List.mem_cons_of_mem _ i
def sumD (d : D) : Option D := (listInts d).map fun ns => .int ns.sum
def maxD (d : D) : Option D := match listInts d with
  | some (n :: ns) => some (.int (maxI (n :: ns)))
  | _ => none
def minD (d : D) : Option D := match listInts d with
  | some (n :: ns) => some (.int (minI (n :: ns)))
  | _ => none
theorem p_sum (hc : X.calm = true) (ha : PE X e (bE S B W f)) (hm : X.mg "sum" = none) (hK : S.K = X.K := by rfl) (he : starEach (e :: []) X.env = (false, eval e X.env) :: starEach [] X.env := by rfl) (hpl : (backTo pos (starEach [] X.env)).any (·.1) = false := by rfl) (hg : Gl X "sum" := by rfl) : PE X (.Call (.Name "sum" p) [e] [] pos) (sE S B W (un sumD f)) :=
  p_fnF (cr_sum hc) (fun d z v H Q hz hv => by
    unfold sumD at hz
    rw [← hK]
    cases h : listInts d with
    | none => rw [h] at hz; cases hz
    | some ns =>
      rw [h] at hz
      cases hz
      obtain ⟨a, rfl, h1⟩ := listInts_sq h hv
      exact ⟨rfl, fun q => ⟨a, ns, rfl, h1, q⟩⟩) ha hm PyProof.Rows.boot_sum hg (by decide) (by decide) he hpl
theorem p_max (hc : X.calm = true) (ha : PE X e (bE S B W f)) (hm : X.mg "max" = none) (hK : S.K = X.K := by rfl) (he : starEach (e :: []) X.env = (false, eval e X.env) :: starEach [] X.env := by rfl) (hpl : (backTo pos (starEach [] X.env)).any (·.1) = false := by rfl) (hg : Gl X "max" := by rfl) : PE X (.Call (.Name "max" p) [e] [] pos) (sE S B W (un maxD f)) :=
  p_fnF (cr_max hc) (fun d z v H Q hz hv => by
    unfold maxD at hz
    rw [← hK]
    split at hz
    · rename_i n ns h
      cases hz
      obtain ⟨a, rfl, h1⟩ := listInts_sq h hv
      refine ⟨rfl, fun q => ⟨a, n :: ns, rfl, h1, Nat.succ_pos _, fun m hm hy => ?_⟩⟩
      have e : maxI (n :: ns) = m := Int.le_antisymm (hy _ (maxI_mem (by simp))) (maxI_le hm)
      rw [← e]
      exact q
    · cases hz) ha hm PyProof.Rows.boot_max hg (by decide) (by decide) he hpl
theorem p_min (hc : X.calm = true) (ha : PE X e (bE S B W f)) (hm : X.mg "min" = none) (hK : S.K = X.K := by rfl) (he : starEach (e :: []) X.env = (false, eval e X.env) :: starEach [] X.env := by rfl) (hpl : (backTo pos (starEach [] X.env)).any (·.1) = false := by rfl) (hg : Gl X "min" := by rfl) : PE X (.Call (.Name "min" p) [e] [] pos) (sE S B W (un minD f)) :=
  p_fnF (cr_min hc) (fun d z v H Q hz hv => by
    unfold minD at hz
    rw [← hK]
    split at hz
    · rename_i n ns h
      cases hz
      obtain ⟨a, rfl, h1⟩ := listInts_sq h hv
      refine ⟨rfl, fun q => ⟨a, n :: ns, rfl, h1, Nat.succ_pos _, fun m hm hy => ?_⟩⟩
      have e : minI (n :: ns) = m := Int.le_antisymm (minI_le hm) (hy _ (minI_mem (by simp)))
      rw [← e]
      exact q
    · cases hz) ha hm PyProof.Rows.boot_min hg (by decide) (by decide) he hpl
def boolsOf : List D → Option (List Bool)
  | [] => some []
  | .bl i :: r => (boolsOf r).map (i :: ·)
  | _ :: _ => none
theorem boolsOf_rep {F : Hp} : ∀ {xs : List D} {vs : List V} {ns : List Bool}, Reps S F xs vs → boolsOf xs = some ns → vs = ns.map V.bl
  | [], vs, ns, h, e => by cases e; exact reps_nil_inv h
  | d :: r, vs, ns, h, e => by
    obtain ⟨v, w, rfl, h1, h2⟩ := reps_cons_inv h
    cases d with
    | bl i =>
      unfold boolsOf at e
      cases q : boolsOf r with
      | none => rw [q] at e; cases e
      | some ms =>
        rw [q] at e
        cases e
        rw [rep_bl_inv h1, boolsOf_rep h2 q]
        rfl
    | _ => cases e
def allD : D → Option D
  | .lst xs => (boolsOf xs).map fun bs => .bl (bs.all fun b => b)
  | _ => none
def anyD : D → Option D
  | .lst xs => (boolsOf xs).map fun bs => .bl (bs.any fun b => b)
  | _ => none
theorem p_all (hc : X.calm = true) (ha : PE X e (bE S B W f)) (hm : X.mg "all" = none) (hK : S.K = X.K := by rfl) (he : starEach (e :: []) X.env = (false, eval e X.env) :: starEach [] X.env := by rfl) (hpl : (backTo pos (starEach [] X.env)).any (·.1) = false := by rfl) (hg : Gl X "all" := by rfl) : PE X (.Call (.Name "all" p) [e] [] pos) (sE S B W (un allD f)) :=
  p_fnF (cr_all hc) (fun d z v H Q hz hv => by
    unfold allD at hz
    rw [← hK]
    split at hz
    · rename_i xs
      cases h : boolsOf xs with
      | none => rw [h] at hz; cases hz
      | some ns =>
        rw [h] at hz
        cases hz
        obtain ⟨a, vs, rfl, h1, h2⟩ := rep_lst_inv hv
        rw [boolsOf_rep h2 h] at h1
        exact ⟨rfl, fun q => ⟨a, ns, rfl, SqL.of h1, q⟩⟩
    · cases hz) ha hm PyProof.Rows.boot_all hg (by decide) (by decide) he hpl
theorem p_any (hc : X.calm = true) (ha : PE X e (bE S B W f)) (hm : X.mg "any" = none) (hK : S.K = X.K := by rfl) (he : starEach (e :: []) X.env = (false, eval e X.env) :: starEach [] X.env := by rfl) (hpl : (backTo pos (starEach [] X.env)).any (·.1) = false := by rfl) (hg : Gl X "any" := by rfl) : PE X (.Call (.Name "any" p) [e] [] pos) (sE S B W (un anyD f)) :=
  p_fnF (cr_any hc) (fun d z v H Q hz hv => by
    unfold anyD at hz
    rw [← hK]
    split at hz
    · rename_i xs
      cases h : boolsOf xs with
      | none => rw [h] at hz; cases hz
      | some ns =>
        rw [h] at hz
        cases hz
        obtain ⟨a, vs, rfl, h1, h2⟩ := rep_lst_inv hv
        rw [boolsOf_rep h2 h] at h1
        exact ⟨rfl, fun q => ⟨a, ns, rfl, SqL.of h1, q⟩⟩
    · cases hz) ha hm PyProof.Rows.boot_any hg (by decide) (by decide) he hpl
def listD : D → Option D
  | .lst xs => some (.lst xs)
  | .tup xs => some (.lst xs)
  | .scr ns => some (.lst (ns.map .int))
  | _ => none
theorem p_list (ha : PE X e (iE S B W f)) (hm : X.mg "list" = none) (hK : S.K = X.K := by rfl) (he : starEach (e :: []) X.env = (false, eval e X.env) :: starEach [] X.env := by rfl) (hpl : (backTo pos (starEach [] X.env)).any (·.1) = false := by rfl) (hg : Gl X "list" := by rfl) : PE X (.Call (.Name "list" p) [e] [] pos) (sE S B W (un listD f)) :=
  p_tyS (call_list_of) (fun d z v F H Q ex hz hv q => by
    unfold listD at hz
    rw [← hK]
    split at hz
    · cases hz
      obtain ⟨a, vs, rfl, h1, h2⟩ := hv.lst ex
      refine ⟨a, vs, rfl, .inl (SqL.of h1), fun l hl => ?_⟩
      have g := Gr.new (o := .lst vs) ex hl
      exact q _ _ _ g (rep_lst upd_same (h2.mono g.f))
    · cases hz
      obtain ⟨a, vs, rfl, h1, h2⟩ := rep_tup_inv (hv.sh (fun _ z => nomatch z) fun _ _ z => nomatch z)
      refine ⟨a, vs, rfl, .inr (SqT.of (ex _ _ h1)), fun l hl => ?_⟩
      have g := Gr.new (o := .lst vs) ex hl
      exact q _ _ _ g (rep_lst upd_same (h2.mono g.f))
    · cases hz
      obtain ⟨a, rfl, h1⟩ := rep_scr_inv (hv.sh (fun _ z => nomatch z) fun _ _ z => nomatch z)
      refine ⟨a, _, rfl, .inl (ex.sqL h1), fun l hl => ?_⟩
      exact q _ _ _ (Gr.new ex hl) (rep_lst upd_same (reps_ints _))
    · cases hz) ha hm PyProof.Rows.boot_list hg (by decide) (by decide) he hpl
def tupleD : D → Option D
  | .lst xs => some (.tup xs)
  | .tup xs => some (.tup xs)
  | _ => none
theorem p_tuple (ha : PE X e (iE S B W f)) (hm : X.mg "tuple" = none) (hK : S.K = X.K := by rfl) (he : starEach (e :: []) X.env = (false, eval e X.env) :: starEach [] X.env := by rfl) (hpl : (backTo pos (starEach [] X.env)).any (·.1) = false := by rfl) (hg : Gl X "tuple" := by rfl) : PE X (.Call (.Name "tuple" p) [e] [] pos) (sE S B W (un tupleD f)) :=
  p_tyS (call_tuple_of) (fun d z v F H Q ex hz hv q => by
    unfold tupleD at hz
    rw [← hK]
    split at hz
    · cases hz
      obtain ⟨a, vs, rfl, h1, h2⟩ := hv.lst ex
      refine ⟨a, vs, rfl, .inl ⟨SqL.of h1, fun l hl => ?_⟩⟩
      have g := Gr.new (o := .tup vs) ex hl
      exact q _ _ _ g (rep_tup upd_same (h2.mono g.f))
    · cases hz
      have hv := hv.sh (fun _ z => nomatch z) fun _ _ z => nomatch z
      obtain ⟨a, vs, rfl, h1, h2⟩ := rep_tup_inv hv
      exact ⟨a, vs, rfl, .inr ⟨SqT.of (ex _ _ h1), q _ F H (Gr.refl ex) hv⟩⟩
    · cases hz) ha hm PyProof.Rows.boot_tuple hg (by decide) (by decide) he hpl
def intD : D → Option D
  | .int i => some (.int i)
  | .bl b => some (.int (if b then 1 else 0))
  | .str z => if decide (z.length ≤ 640) = true then (PySem.intText? z).map .int else none
  | _ => none
def rIntAll : List V → Hp → VK → Prop := fun xs H Q => ((∃ i, xs = [.int i] ∧ Q (.int i) H) ∨ ∃ k, xs = [.bl k] ∧ Q (.int (if k then 1 else 0)) H) ∨ ∃ a n, xs = [.str a] ∧ PySem.intText? a = some n ∧ a.length ≤ 640 ∧ Q (.int n) H
theorem CallR.or {fv : Value} {r r' : List V → Hp → VK → Prop} (h : CallR X fv r) (h' : CallR X fv r') : CallR X fv (fun xs H Q => r xs H Q ∨ r' xs H Q) := by
  intro pins s σ H vs us Q I rr w
  rcases w with w | w
  · exact h pins s σ H vs us Q I rr w
  · exact h' pins s σ H vs us Q I rr w
theorem p_toint (ha : PE X e (bE S B W f)) (hm : X.mg "int" = none) (he : starEach (e :: []) X.env = (false, eval e X.env) :: starEach [] X.env := by rfl) (hpl : (backTo pos (starEach [] X.env)).any (·.1) = false := by rfl) (hg : Gl X "int" := by rfl) : PE X (.Call (.Name "int" p) [e] [] pos) (sE S B W (un intD f)) :=
  p_tyF (r := rIntAll) (Vi.CallR.or call_int1 call_int_str) (fun d z v H Q hz hv => by
    unfold intD at hz
    split at hz
    · cases hz
      rw [rep_int_inv hv]
      exact ⟨rfl, fun q => .inl (.inl ⟨_, rfl, q⟩)⟩
    · cases hz
      rw [rep_bl_inv hv]
      exact ⟨rfl, fun q => .inl (.inr ⟨_, rfl, q⟩)⟩
    · split at hz
      · rename_i z' c
        cases h : PySem.intText? z' with
        | none => rw [h] at hz; cases hz
        | some n =>
          rw [h] at hz
          cases hz
          rw [rep_str_inv hv]
          exact ⟨rfl, fun q => .inr ⟨_, n, rfl, h, of_decide_eq_true c, q⟩⟩
      · cases hz
    · cases hz) ha hm PyProof.Rows.boot_int hg (by decide) (by decide) he hpl
def strD : D → Option D
  | .int i => if decide (i.natAbs.log2 < 1920) = true then some (.str (toString i)) else none
  | _ => none
theorem p_tostr (ha : PE X e (bE S B W f)) (hm : X.mg "str" = none) (he : starEach (e :: []) X.env = (false, eval e X.env) :: starEach [] X.env := by rfl) (hpl : (backTo pos (starEach [] X.env)).any (·.1) = false := by rfl) (hg : Gl X "str" := by rfl) : PE X (.Call (.Name "str" p) [e] [] pos) (sE S B W (un strD f)) :=
  p_tyF (call_str_int) (fun d z v H Q hz hv => by
    unfold strD at hz
    split at hz
    · split at hz
      · rename_i c
        cases hz
        rw [rep_int_inv hv]
        exact ⟨rfl, fun q => ⟨_, rfl, of_decide_eq_true c, q⟩⟩
      · cases hz
    · cases hz) ha hm PyProof.Rows.boot_str hg (by decide) (by decide) he hpl
/-- max(m, n), min(m, n) -/
abbrev oMax := i2 (fun _ _ => true) fun i j => .int (if j > i then j else i)
abbrev oMin := i2 (fun _ _ => true) fun i j => .int (if j < i then j else i)
theorem p_max2 {a b : Expr} (hc : X.calm = true) (ha : PE X a (sE S B W f)) (hb : PE X b (sE S B W g)) (hm : X.mg "max" = none) (hg : Gl X "max" := by rfl) (he : starEach (a :: [b]) X.env = (false, eval a X.env) :: starEach [b] X.env := by rfl) (he2 : starEach (b :: []) X.env = (false, eval b X.env) :: starEach [] X.env := by rfl) (hpl : (backTo pos (starEach [b] X.env)).any (·.1) = false := by rfl) :
    PE X (.Call (.Name "max" p) [a, b] [] pos) (sE S B W (bin oMax f g)) := pe_imp (pe_callB (call_max2 hc) hg hm PyProof.Rows.boot_max (pa_cons ha (pa_cons hb pa_nil he2) he) (by decide) (by decide) he hpl) fun σ H Q ⟨F, ρ, rel, q⟩ => by
  refine bindG rel q fun d x F1 H1 _ g1 r1 q1 => bindG (rel.grow g1) q1 fun e' y F2 H2 _ g2 r2 q2 => ?_
  obtain ⟨z, h1, h2⟩ := endG q2
  obtain ⟨i, j, rfl, rfl, _, rfl⟩ := i2_inv h1
  exact ⟨i, j, by rw [rep_int_inv r1, rep_int_inv r2], h2 _ F2 H2 (Gr.refl g2.fh) rep_int⟩
theorem p_min2 {a b : Expr} (hc : X.calm = true) (ha : PE X a (sE S B W f)) (hb : PE X b (sE S B W g)) (hm : X.mg "min" = none) (hg : Gl X "min" := by rfl) (he : starEach (a :: [b]) X.env = (false, eval a X.env) :: starEach [b] X.env := by rfl) (he2 : starEach (b :: []) X.env = (false, eval b X.env) :: starEach [] X.env := by rfl) (hpl : (backTo pos (starEach [b] X.env)).any (·.1) = false := by rfl) :
    PE X (.Call (.Name "min" p) [a, b] [] pos) (sE S B W (bin oMin f g)) := pe_imp (pe_callB (call_min2 hc) hg hm PyProof.Rows.boot_min (pa_cons ha (pa_cons hb pa_nil he2) he) (by decide) (by decide) he hpl) fun σ H Q ⟨F, ρ, rel, q⟩ => by
  refine bindG rel q fun d x F1 H1 _ g1 r1 q1 => bindG (rel.grow g1) q1 fun e' y F2 H2 _ g2 r2 q2 => ?_
  obtain ⟨z, h1, h2⟩ := endG q2
  obtain ⟨i, j, rfl, rfl, _, rfl⟩ := i2_inv h1
  exact ⟨i, j, by rw [rep_int_inv r1, rep_int_inv r2], h2 _ F2 H2 (Gr.refl g2.fh) rep_int⟩
end
end
end Vi

/-! Vi5: what is walked; comprehensions; targets. -/
namespace Vi
open PySem PySem.Spec PyProof.Rows L2
/-! ### targets -/
inductive Tg where
  | nm (i : Nat) | tp (is : List Nat)
def Tg.ix : Tg → List Nat
  | .nm i => [i]
  | .tp is => is
def setAll : List Nat → List D → Store → Option Store
  | [], [], ρ => some ρ
  | i :: is, d :: ds, ρ => setAll is ds (ρ.set i (.sh d))
  | _, _, _ => none
/-- a target takes a value -/
def Tg.bind : Tg → D → Store → Option Store
  | .nm i, d, ρ => some (ρ.set i (.sh d))
  | .tp is, .tup ds, ρ => setAll is ds ρ
  | .tp _, _, _ => none
theorem wipe_set {σ : SS} {i : Nat} {o : Option V} : ∀ {vs : List Nat}, i ∈ vs → wipe (σ.set i o) vs = wipe σ vs
  | v :: vs, h => by
    show (wipe (σ.set i o) vs).set v none = (wipe σ vs).set v none
    by_cases hv : i ∈ vs
    · rw [wipe_set hv]
    · have e : i = v := by
        rcases List.mem_cons.mp h with h | h
        · exact h
        · exact absurd h hv
      subst e
      have out : ∀ (vs : List Nat) (σ : SS), i ∉ vs → wipe (σ.set i o) vs = (wipe σ vs).set i o := by
        intro vs
        induction vs with
        | nil => intro σ _; rfl
        | cons w ws ih =>
          intro σ hn
          show (wipe (σ.set i o) ws).set w none = ((wipe σ ws).set w none).set i o
          rw [ih σ fun z => hn (List.mem_cons_of_mem _ z)]
          exact List.set_comm _ _ fun z => hn (z ▸ List.mem_cons_self)
      rw [out vs σ hv, List.set_set]
theorem wipe_wipe (σ : SS) : ∀ vs ws : List Nat, (∀ v ∈ ws, v ∈ vs) → wipe (wipe σ ws) vs = wipe σ vs
  | vs, [], _ => rfl
  | vs, w :: ws, h => by
    show wipe ((wipe σ ws).set w none) vs = wipe σ vs
    rw [wipe_set (h w List.mem_cons_self)]
    exact wipe_wipe σ vs ws fun v hv => h v (List.mem_cons_of_mem _ hv)
section
variable {X : Cx} {S : Sg} {B : Bs} {W : WX} {e a b c tg : Expr} {es : List Expr} {pos : Pos}
/-- a target's reading is good for t -/
def TgOk (S : Sg) (B : Bs) (g : TG) (t : Tg) : Prop := ∀ (F H : Hp) (σ : SS) (ρ ρ' : Store) (x : V) (d : D) (Q : SS → Hp → Prop), SRel S B F H σ ρ → Rep S F d x → t.bind d ρ = some ρ' →
  (∀ σ', SRel S B F H σ' ρ' → (∀ vs : List Nat, (∀ i ∈ t.ix, i ∈ vs) → wipe σ' vs = wipe σ vs) → Q σ' H) → g x σ H Q
structure PTg (X : Cx) (S : Sg) (B : Bs) (tg : Expr) (t : Tg) : Prop where
  ex : ∃ g, PG X tg g ∧ TgOk S B g t
theorem g_nm (i : Nat) {x : Str} (hN : X.N.Nodup) (hi : X.N[i]? = some x := by rfl) (hx : Loc X.env.scope x := by first | exact Or.inl rfl | exact Or.inr rfl) (hf : X.fn x = true ∨ X.env.scope.names.lookup x = some .local := by first | exact .inl rfl | exact .inr rfl) : PTg X S B (.Name x pos) (.nm i) :=
  ⟨gName i, pg_name hN hi hx hf, fun F H σ ρ ρ' x d Q rel r hb q => by
    cases hb
    exact q _ (rel.setSh r) fun vs h => wipe_set (h i (by simp [Tg.ix]))⟩
/-- several names, one after another -/
def TgsOk (S : Sg) (B : Bs) (g : TGs) (is : List Nat) : Prop := ∀ (F H : Hp) (σ : SS) (ρ ρ' : Store) (xs : List V) (ds : List D) (Q : SS → Hp → Prop), SRel S B F H σ ρ → Reps S F ds xs → setAll is ds ρ = some ρ' →
  (∀ σ', SRel S B F H σ' ρ' → (∀ vs : List Nat, (∀ i ∈ is, i ∈ vs) → wipe σ' vs = wipe σ vs) → Q σ' H) → g xs σ H Q
structure PTgs (X : Cx) (S : Sg) (B : Bs) (ts : List Expr) (is : List Nat) : Prop where
  ex : ∃ g, PGs X ts g ∧ TgsOk S B g is
theorem g_nil : PTgs X S B [] [] := ⟨gNil, pgs_nil, fun F H σ ρ ρ' xs ds Q rel r hb q => by
  cases ds with
  | nil =>
    cases hb
    rw [reps_nil_inv r]
    exact ⟨rfl, q σ rel fun _ _ => rfl⟩
  | cons _ _ => cases hb⟩
theorem g_cons (i : Nat) {is : List Nat} {x : Str} (hN : X.N.Nodup) (hr : PTgs X S B es is) (hi : X.N[i]? = some x := by rfl) (hx : Loc X.env.scope x := by first | exact Or.inl rfl | exact Or.inr rfl) (hf : X.fn x = true ∨ X.env.scope.names.lookup x = some .local := by first | exact .inl rfl | exact .inr rfl)
    (hs : (assignEach (.Name x pos :: es) X.env).map (·.2) = assign (.Name x pos) X.env :: (assignEach es X.env).map (·.2) := by rfl) : PTgs X S B (.Name x pos :: es) (i :: is) := by
  obtain ⟨g, h1, h2⟩ := hr.ex
  refine ⟨gCons (gName i) g, pgs_cons (pg_name hN hi hx hf) h1 hs, fun F H σ ρ ρ' xs ds Q rel r hb q => ?_⟩
  cases ds with
  | nil => cases hb
  | cons d ds =>
    obtain ⟨v, w, rfl, r1, r2⟩ := reps_cons_inv r
    refine ⟨v, w, rfl, ?_⟩
    refine h2 F H _ _ ρ' w ds Q (rel.setSh r1) r2 hb fun σ' rel' hw => q σ' rel' fun vs h => ?_
    rw [hw vs fun j hj => h j (List.mem_cons_of_mem _ hj)]
    exact wipe_set (h i List.mem_cons_self)
theorem setAll_len : ∀ {is : List Nat} {ds : List D} {ρ ρ' : Store}, setAll is ds ρ = some ρ' → ds.length = is.length
  | [], [], _, _, _ => rfl
  | [], _ :: _, _, _, h => nomatch h
  | _ :: _, [], _, _, h => nomatch h
  | i :: is, d :: ds, ρ, ρ', h => by simp [setAll_len (is := is) (ds := ds) h]
theorem g_tp {is : List Nat} {k : Nat} (hc : X.calm = true) (h : PTgs X S B es is) (hn : (assignEach es X.env).length = is.length := by rfl) (hst : (assignEach es X.env).findIdx? (·.1) = none := by rfl) : PTg X S B (.Tuple es k pos) (.tp is) := by
  obtain ⟨g, h1, h2⟩ := h.ex
  refine ⟨gTup X.K is.length g, pg_tup hc h1 hn hst, fun F H σ ρ ρ' x d Q rel r hb q => ?_⟩
  cases d with
  | tup ds =>
    obtain ⟨a, vs, rfl, h3, h4⟩ := rep_tup_inv r
    exact ⟨a, vs, rfl, SqT.of (rel.fh _ _ h3), by rw [← h4.length]; exact setAll_len hb, h2 F H σ ρ ρ' vs ds Q rel h4 hb q⟩
  | _ => cases hb

/-! ### what is walked -/
/-- J walks ds while what stands in G and in F1 stands -/
def ItOk (S : Sg) (J : It) (G F1 : Hp) (ds : List D) : Prop := ∀ F H, Ex G H → Ex F1 F → Ex F H → ∀ i : Nat,
  (∀ d, ds[i]? = some d → J.go i H ∧ ∀ x H', J.yld i H x H' → ∃ F', Gr F H F' H' ∧ Rep S F' d x) ∧ (i = ds.length → J.stop i H)
/-- G the shared part (a loop), or the heap (a comprehension) -/
def repJ (S : Sg) (β : Bool) : Hp → Hp → List D → It → Prop := fun F H ds J => ItOk S J (if β then H else F) F ds
abbrev jI (S : Sg) (B : Bs) (W : WX) (β : Bool) (f : DA) : TI := tG S B W (repJ S β) f
theorem pi_imp {t t' : TI} (h : PI X tg e t) (q : ∀ σ H Q, t' σ H Q → t σ H Q) : PI X tg e t' := ⟨fun pins s σ H Q I w => h.run pins s σ H Q I (q σ H Q w)⟩
/-- a list, a tuple, a text -/
def iSeq (K : PySem.W.Frag) (te : TE) : TI := fun σ H R => te σ H fun x H1 => (∃ a, x = .ref a ∧ (∃ xs, SqL K H1 a xs) ∧ R (Itl K a) H1) ∨ (∃ a, x = .ref a ∧ (∃ xs, SqT K H1 a xs) ∧ R (Itt K a) H1) ∨ ∃ z, x = .str z ∧ R (Its z) H1
theorem pi_seq {te : TE} (he : PE X e te) : PI X tg e (iSeq X.K te) := by
  refine ⟨fun pins s σ H R I h => ?_⟩
  refine thn (he.run pins s σ H _ I h) fun v s1 ⟨x, H1, I1, r1, q1⟩ => ?_
  rcases q1 with ⟨a, e, ⟨xs, hq⟩, q⟩ | ⟨a, e, ⟨xs, hq⟩, q⟩ | ⟨z, e, q⟩
  · subst e
    cases r1
    obtain ⟨its, rv, p, hz⟩ := I1.list hq
    refine wpAny_pyIter_list p.isList ?_
    refine ⟨s1.heap.objs.size, [s1.heap.objs.size], _, _, H1, rfl, I1.kept (t' := s1.toks) fun b o e => Heap.get?_push_of_some _ e, turn_list a _, ⟨_, Heap.get?_push_size _ rfl, rfl, rfl⟩, fun b hb => ?_, q⟩
    have e : b = s1.heap.objs.size := by simpa using hb
    subst e
    exact I1.fpOk (Nat.le_refl _) (I1.hok.fresh (Nat.le_refl _))
  · subst e
    cases r1
    obtain ⟨its, rv, p, hz⟩ := I1.tuple hq
    refine wpAny_pyIter_tuple (show s1.heap.IsTuple a its.toArray from p) ?_
    refine ⟨s1.heap.objs.size, [s1.heap.objs.size], _, _, H1, rfl, I1.kept (t' := s1.toks) fun b o e => Heap.get?_push_of_some _ e, turn_tuple a _, ⟨_, Heap.get?_push_size _ rfl, rfl, rfl⟩, fun b hb => ?_, q⟩
    have e : b = s1.heap.objs.size := by simpa using hb
    subst e
    exact I1.fpOk (Nat.le_refl _) (I1.hok.fresh (Nat.le_refl _))
  · subst e
    obtain ⟨t, rfl⟩ := r1
    cases ha : z.cps.all (· < 128)
    · exact wpAny_pyIter_wide ha (pi_one (tk := s1.toks) I1 _ (turn_str _ z t "str_iterator" (.inr rfl)) ⟨_, Heap.get?_push_size _ rfl, rfl, rfl⟩ q)
    · exact wpAny_pyIter_ascii ha (pi_one (tk := s1.toks) I1 _ (turn_str _ z t "str_ascii_iterator" (.inl rfl)) ⟨_, Heap.get?_push_size _ rfl, rfl, rfl⟩ q)
/-- its items -/
def itemsD : D → Option (List D)
  | .lst xs => some xs
  | .tup xs => some xs
  | .scr ns => some (ns.map .int)
  | .str z => some (z.cps.toList.map fun c => .str ⟨#[c]⟩)
  | _ => none
def iterD (f : DE) : DA := fun ρ => (f ρ).bind fun d => .of (itemsD d)
theorem itOk_lst {K : PySem.W.Frag} {G F1 : Hp} {a : Addr} {xs : List D} {vs : List V} (h : ∀ H, Ex G H → SqL K H a vs) (inj : ∀ H ws, Ex G H → SqL K H a ws → ws = vs) (r : Reps S F1 xs vs) : ItOk S (Itl K a) G F1 xs := fun F H e1 e2 e3 i => by
  refine ⟨fun d hd => ?_, fun hi => ⟨vs, h H e1, by rw [hi, r.length]; exact Nat.le_refl _⟩⟩
  obtain ⟨v, h1, h2⟩ := r.get hd
  refine ⟨⟨vs, v, h H e1, h1⟩, fun x H' y => ?_⟩
  obtain ⟨rfl, y⟩ := y
  have := y vs (h H' e1)
  rw [h1] at this
  cases this
  exact ⟨F, Gr.refl e3, h2.mono e2⟩
theorem itOk_L {K : PySem.W.Frag} {G F1 : Hp} {a : Addr} {xs : List D} {vs : List V} (h : SqL K G a vs) (r : Reps S F1 xs vs) : ItOk S (Itl K a) G F1 xs := fun F H e1 e2 e3 i => by
  refine ⟨fun d hd => ?_, fun hi => ⟨vs, e1.sqL h, by rw [hi, r.length]; exact Nat.le_refl _⟩⟩
  obtain ⟨v, h1, h2⟩ := r.get hd
  refine ⟨⟨vs, v, e1.sqL h, h1⟩, fun x H' y => ?_⟩
  obtain ⟨rfl, y⟩ := y
  have := y vs (e1.sqL h)
  rw [h1] at this
  cases this
  exact ⟨F, Gr.refl e3, h2.mono e2⟩
theorem itOk_T {K : PySem.W.Frag} {G F1 : Hp} {a : Addr} {xs : List D} {vs : List V} (h : SqT K G a vs) (r : Reps S F1 xs vs) : ItOk S (Itt K a) G F1 xs := fun F H e1 e2 e3 i => by
  refine ⟨fun d hd => ?_, fun hi => ⟨vs, e1.sqT h, by rw [hi, r.length]; exact Nat.le_refl _⟩⟩
  obtain ⟨v, h1, h2⟩ := r.get hd
  refine ⟨⟨vs, v, e1.sqT h, h1⟩, fun x H' y => ?_⟩
  obtain ⟨rfl, y⟩ := y
  have := y vs (e1.sqT h)
  rw [h1] at this
  cases this
  exact ⟨F, Gr.refl e3, h2.mono e2⟩
theorem itOk_S {G F1 : Hp} {z : Str} : ItOk S (Its z) G F1 (z.cps.toList.map fun c => .str ⟨#[c]⟩) := fun F H e1 e2 e3 i => by
  refine ⟨fun d hd => ?_, fun hi => by
    show z.cps.size ≤ i
    rw [hi]
    simp⟩
  rw [List.getElem?_map] at hd
  have hi : i < z.cps.size := by
    cases q : z.cps.toList[i]? with
    | none => rw [q] at hd; cases hd
    | some c => have := (List.getElem?_eq_some_iff.mp q).1; simpa using this
  refine ⟨hi, fun x H' y => ?_⟩
  obtain ⟨rfl, c, h1, rfl⟩ := y
  have h2 : z.cps.toList[i]? = some c := by simpa using h1
  rw [h2] at hd
  cases hd
  exact ⟨F, Gr.refl e3, rep_str⟩
theorem j_seq {f : DE} (he : PE X e (sE S B W f)) (hK : S.K = X.K := by rfl) {β : Bool} : PI X tg e (jI S B W β (iterD f)) := pi_imp (pi_seq he) fun σ H Q ⟨F, ρ, rel, q⟩ => by
  rw [← hK]
  refine bindG rel q fun d x F1 H1 _ g1 r1 q1 => ?_
  obtain ⟨ds, h1, h2⟩ := endG q1
  have G : ∀ {H' : Hp}, Ex F1 H' → Ex F1 (if β then H1 else F1) := fun _ => by
    cases β with
    | true => exact g1.fh
    | false => exact .refl _
  have G := G (g1.fh)
  have gr := Gr.refl g1.fh
  unfold itemsD at h1
  split at h1
  · cases h1
    obtain ⟨a, vs, rfl, h3, h4⟩ := rep_lst_inv r1
    exact .inl ⟨a, rfl, ⟨vs, SqL.of (g1.fh _ _ h3)⟩, h2 _ F1 H1 gr (itOk_L (SqL.of (G _ _ h3)) h4)⟩
  · cases h1
    obtain ⟨a, vs, rfl, h3, h4⟩ := rep_tup_inv r1
    exact .inr (.inl ⟨a, rfl, ⟨vs, SqT.of (g1.fh _ _ h3)⟩, h2 _ F1 H1 gr (itOk_T (SqT.of (G _ _ h3)) h4)⟩)
  · cases h1
    obtain ⟨a, rfl, h3⟩ := rep_scr_inv r1
    exact .inl ⟨a, rfl, ⟨_, g1.fh.sqL h3⟩, h2 _ F1 H1 gr (itOk_L (G.sqL h3) (reps_ints _))⟩
  · cases h1
    rw [rep_str_inv r1]
    exact .inr (.inr ⟨_, rfl, h2 _ F1 H1 gr itOk_S⟩)
  · cases h1
/-- in a comprehension one's own list may be walked -/
theorem j_own {f : DE} (he : PE X e (iE S B W f)) (hK : S.K = X.K := by rfl) : PI X tg e (jI S B W true (iterD f)) := pi_imp (pi_seq he) fun σ H Q ⟨F, ρ, rel, q⟩ => by
  rw [← hK]
  refine bindG rel q fun d x F1 H1 _ g1 r1 q1 => ?_
  obtain ⟨ds, h1, h2⟩ := endG q1
  have gr := Gr.refl g1.fh
  unfold itemsD at h1
  split at h1
  · cases h1
    obtain ⟨a, vs, rfl, h3, h4⟩ := r1.lst g1.fh
    exact .inl ⟨a, rfl, ⟨vs, SqL.of h3⟩, h2 _ F1 H1 gr (itOk_L (SqL.of h3) h4)⟩
  · cases h1
    obtain ⟨a, vs, rfl, h3, h4⟩ := rep_tup_inv (r1.sh (fun _ z => nomatch z) fun _ _ z => nomatch z)
    exact .inr (.inl ⟨a, rfl, ⟨vs, SqT.of (g1.fh _ _ h3)⟩, h2 _ F1 H1 gr (itOk_T (SqT.of (g1.fh _ _ h3)) h4)⟩)
  · cases h1
    obtain ⟨a, rfl, h3⟩ := rep_scr_inv (r1.sh (fun _ z => nomatch z) fun _ _ z => nomatch z)
    exact .inl ⟨a, rfl, ⟨_, g1.fh.sqL h3⟩, h2 _ F1 H1 gr (itOk_L (g1.fh.sqL h3) (reps_ints _))⟩
  · cases h1
    rw [rep_str_inv (r1.sh (fun _ z => nomatch z) fun _ _ z => nomatch z)]
    exact .inr (.inr ⟨_, rfl, h2 _ F1 H1 gr itOk_S⟩)
  · cases h1
/-- range(n), range(a, b), range(a, b, c) -/
def upto (lo : Int) (n : Nat) : List D := (List.range n).map fun (i : Nat) => D.int (lo + (i : Int))
def inr62 (i : Int) : Bool := decide (-(2 ^ 62) ≤ i ∧ i < 2 ^ 62)
def rng1 (f : DE) : DA := fun ρ => (f ρ).bind fun d => match d with
  | .int j => if inr62 j = true then .ok (upto 0 j.toNat) else .bad
  | _ => .bad
def rng2 (f g : DE) : DA := fun ρ => (f ρ).bind fun d => (g ρ).bind fun e => match d, e with
  | .int i, .int j => if (inr62 i && inr62 j) = true then .ok (upto i (j - i).toNat) else .bad
  | _, _ => .bad
theorem itOk_R {G F1 : Hp} {lo : Int} {n : Nat} : ItOk S (Itr lo n) G F1 (upto lo n) := fun F H e1 e2 e3 i => by
  refine ⟨fun d hd => ?_, fun hi => by
    show n ≤ i
    rw [hi]
    simp [upto]⟩
  unfold upto at hd
  rw [List.getElem?_map] at hd
  have hi : i < n := by
    cases q : (List.range n)[i]? with
    | none => rw [q] at hd; cases hd
    | some c => have := (List.getElem?_eq_some_iff.mp q).1; simpa using this
  rw [List.getElem?_range hi] at hd
  cases hd
  refine ⟨hi, fun x H' y => ?_⟩
  obtain ⟨rfl, rfl⟩ := y
  exact ⟨F, Gr.refl e3, rep_int⟩
theorem j_rng1 {f : DE} {p : Pos} {β : Bool} (ha : PE X a (sE S B W f)) (hm : X.mg "range" = none) (hg : Gl X "range" := by rfl) (hs : starEach [a] X.env = [(false, eval a X.env)] := by rfl) (hs2 : starEach (a :: []) X.env = (false, eval a X.env) :: starEach [] X.env := by rfl) : PI X tg (.Call (.Name "range" p) [a] [] pos) (jI S B W β (rng1 f)) :=
  pi_imp (pi_range1 hg hm (pa_cons ha pa_nil hs2) hs) fun σ H Q ⟨F, ρ, rel, q⟩ => by
  refine bindG rel q fun d x F1 H1 _ g1 r1 q1 => ?_
  cases d with
  | int j =>
    have q1 : PostG S W (repJ S β) F1 H1 σ Q (if inr62 j = true then .ok (upto 0 j.toNat) else .bad) := q1
    split at q1
    · rename_i c
      have c := of_decide_eq_true c
      exact ⟨j, by rw [rep_int_inv r1], c.1, c.2, q1 _ F1 H1 (Gr.refl g1.fh) itOk_R⟩
    · exact q1.elim
  | _ => exact q1.elim
theorem j_rng2 {f g : DE} {p : Pos} {β : Bool} (ha : PE X a (sE S B W f)) (hb : PE X b (sE S B W g)) (hm : X.mg "range" = none) (hg : Gl X "range" := by rfl) (hs : starEach [a, b] X.env = [(false, eval a X.env), (false, eval b X.env)] := by rfl) (hs2 : starEach [b] X.env = [(false, eval b X.env)] := by rfl)
    (hs3 : starEach (a :: [b]) X.env = (false, eval a X.env) :: starEach [b] X.env := by rfl) (hs4 : starEach (b :: []) X.env = (false, eval b X.env) :: starEach [] X.env := by rfl) : PI X tg (.Call (.Name "range" p) [a, b] [] pos) (jI S B W β (rng2 f g)) :=
  pi_imp (pi_range2 hg hm (pa_cons ha (pa_cons hb pa_nil hs4) hs3) hs hs2) fun σ H Q ⟨F, ρ, rel, q⟩ => by
  refine bindG rel q fun d x F1 H1 _ g1 r1 q1 => bindG (rel.grow g1) q1 fun e' y F2 H2 _ g2 r2 q2 => ?_
  cases d with
  | int i =>
    cases e' with
    | int j =>
      have q2 : PostG S W (repJ S β) F2 H2 σ Q (if (inr62 i && inr62 j) = true then .ok (upto i (j - i).toNat) else .bad) := q2
      split at q2
      · rename_i c
        obtain ⟨c1, c2⟩ := Bool.and_eq_true_iff.mp c
        have c1 := of_decide_eq_true c1
        have c2 := of_decide_eq_true c2
        exact ⟨i, j, by rw [rep_int_inv r1, rep_int_inv r2], ⟨c1.1, c1.2, c2.1, c2.2⟩, q2 _ F2 H2 (Gr.refl g2.fh) itOk_R⟩
      · exact q2.elim
    | _ => exact q2.elim
  | _ => exact q2.elim
/-- zip(xs, ys), enumerate(xs) -/
def zipL (xs ys : List D) : List D := (xs.zip ys).map fun p => .tup [p.1, p.2]
def zipD (f g : DE) : DA := fun ρ => (f ρ).bind fun d => (g ρ).bind fun e => match d, e with
  | .lst xs, .lst ys => .ok (zipL xs ys)
  | _, _ => .bad
def enumFrom : Nat → List D → List D
  | _, [] => []
  | n, x :: xs => .tup [.int (n : Int), x] :: enumFrom (n + 1) xs
def enumD (f : DE) : DA := fun ρ => (f ρ).bind fun d => match d with
  | .lst xs => .ok (enumFrom 0 xs)
  | .scr ns => .ok (enumFrom 0 (ns.map .int))
  | _ => .bad
theorem enum_get : ∀ {xs : List D} {n i : Nat} {d : D}, (enumFrom n xs)[i]? = some d → ∃ x, xs[i]? = some x ∧ d = .tup [.int ((n + i : Nat) : Int), x]
  | x :: xs, n, 0, d, h => by
    simp [enumFrom] at h
    exact ⟨x, rfl, by rw [← h]; simp⟩
  | x :: xs, n, i + 1, d, h => by
    simp [enumFrom] at h
    obtain ⟨y, h1, h2⟩ := enum_get h
    exact ⟨y, by simpa using h1, by rw [h2]; congr 4; omega⟩
theorem enum_len : ∀ (xs : List D) (n : Nat), (enumFrom n xs).length = xs.length
  | [], _ => rfl
  | _ :: xs, n => by simp [enumFrom, enum_len xs]
theorem itOk_E {K : PySem.W.Frag} {G F1 : Hp} {a : Addr} {xs : List D} {vs : List V} (h : SqL K G a vs) (r : Reps S F1 xs vs) : ItOk S (Ite K a) G F1 (enumFrom 0 xs) := fun F H e1 e2 e3 i => by
  refine ⟨fun d hd => ?_, fun hi => ⟨vs, e1.sqL h, by rw [hi, enum_len, r.length]; exact Nat.le_refl _⟩⟩
  obtain ⟨x, h0, rfl⟩ := enum_get hd
  obtain ⟨v, h1, h2⟩ := r.get h0
  refine ⟨⟨vs, v, e1.sqL h, h1⟩, fun y H' q => ?_⟩
  obtain ⟨T, w, rfl, hT, rfl, q⟩ := q
  have := q vs (e1.sqL h)
  rw [h1] at this
  cases this
  have g := Gr.new (o := .tup [.int (i : Nat), v]) e3 hT
  refine ⟨_, g, rep_tup upd_same ?_⟩
  rw [Nat.zero_add]
  exact reps_cons rep_int (reps_cons ((h2.mono e2).mono g.f) reps_nil)
theorem zip_get {xs ys : List D} {i : Nat} {d : D} (h : (zipL xs ys)[i]? = some d) : ∃ x y, xs[i]? = some x ∧ ys[i]? = some y ∧ d = .tup [x, y] := by
  unfold zipL at h
  rw [List.getElem?_map] at h
  cases q : (xs.zip ys)[i]? with
  | none => rw [q] at h; cases h
  | some p =>
    rw [q] at h
    cases h
    obtain ⟨x, y⟩ := p
    obtain ⟨h1, h2⟩ := List.getElem?_zip_eq_some.mp q
    exact ⟨x, y, h1, h2, rfl⟩
theorem itOk_Z {K : PySem.W.Frag} {G F1 : Hp} {a b : Addr} {xs ys : List D} {vs ws : List V} (h : SqL K G a vs) (h' : SqL K G b ws) (r : Reps S F1 xs vs) (r' : Reps S F1 ys ws) : ItOk S (Itz K a b) G F1 (zipL xs ys) := fun F H e1 e2 e3 i => by
  refine ⟨fun d hd => ?_, fun hi => ⟨vs, ws, e1.sqL h, e1.sqL h', by
    rw [hi, ← r.length, ← r'.length]
    simp [zipL]
    omega⟩⟩
  obtain ⟨x, y, h1, h2, rfl⟩ := zip_get hd
  obtain ⟨v, h3, h4⟩ := r.get h1
  obtain ⟨w, h5, h6⟩ := r'.get h2
  refine ⟨⟨vs, ws, v, w, e1.sqL h, e1.sqL h', h3, h5⟩, fun z H' q => ?_⟩
  obtain ⟨T, v', w', rfl, hT, rfl, q1, q2⟩ := q
  have := q1 vs (e1.sqL h)
  rw [h3] at this
  cases this
  have := q2 ws (e1.sqL h')
  rw [h5] at this
  cases this
  have g := Gr.new (o := .tup [v, w]) e3 hT
  exact ⟨_, g, rep_tup upd_same (reps_cons ((h4.mono e2).mono g.f) (reps_cons ((h6.mono e2).mono g.f) reps_nil))⟩
theorem j_zip {f g : DE} {p tpos : Pos} {elts : List Expr} {kk : Nat} {β : Bool} (ha : PE X a (sE S B W f)) (hb : PE X b (sE S B W g)) (hm : X.mg "zip" = none) (hK : S.K = X.K := by rfl) (hg : Gl X "zip" := by rfl) (hs : starEach [a, b] X.env = (false, eval a X.env) :: starEach [b] X.env := by rfl) (hpl : (backTo pos (starEach [b] X.env)).any (·.1) = false := by rfl)
    (hs4 : starEach (b :: []) X.env = (false, eval b X.env) :: starEach [] X.env := by rfl) : PI X (.Tuple elts kk tpos) (.Call (.Name "zip" p) [a, b] [] pos) (jI S B W β (zipD f g)) :=
  pi_imp (pi_zip hg hm (pa_cons ha (pa_cons hb pa_nil hs4) hs) hs hpl) fun σ H Q ⟨F, ρ, rel, q⟩ => by
  rw [← hK]
  refine bindG rel q fun d x F1 H1 _ g1 r1 q1 => bindG (rel.grow g1) q1 fun e' y F2 H2 _ g2 r2 q2 => ?_
  have r1 := Rep.mono g2.f r1
  have G : Ex F2 (if β then H2 else F2) := by
    cases β with
    | true => exact g2.fh
    | false => exact .refl _
  cases d with
  | lst xs =>
    cases e' with
    | lst ys =>
      obtain ⟨a, vs, rfl, h1, h2⟩ := rep_lst_inv r1
      obtain ⟨b, ws, rfl, h3, h4⟩ := rep_lst_inv r2
      exact ⟨a, b, vs, ws, rfl, SqL.of (g2.fh _ _ h1), SqL.of (g2.fh _ _ h3), q2 _ F2 H2 (Gr.refl g2.fh) (itOk_Z (SqL.of (G _ _ h1)) (SqL.of (G _ _ h3)) h2 h4)⟩
    | _ => exact q2.elim
  | _ => exact q2.elim
theorem j_enum {f : DE} {p tpos : Pos} {elts : List Expr} {kk : Nat} {β : Bool} (ha : PE X a (sE S B W f)) (hm : X.mg "enumerate" = none) (hK : S.K = X.K := by rfl) (hg : Gl X "enumerate" := by rfl) (hs : starEach [a] X.env = [(false, eval a X.env)] := by rfl) (hs4 : starEach (a :: []) X.env = (false, eval a X.env) :: starEach [] X.env := by rfl) :
    PI X (.Tuple elts kk tpos) (.Call (.Name "enumerate" p) [a] [] pos) (jI S B W β (enumD f)) :=
  pi_imp (pi_enum hg hm (pa_cons ha pa_nil hs4) hs) fun σ H Q ⟨F, ρ, rel, q⟩ => by
  rw [← hK]
  refine bindG rel q fun d x F1 H1 _ g1 r1 q1 => ?_
  have G : Ex F1 (if β then H1 else F1) := by
    cases β with
    | true => exact g1.fh
    | false => exact .refl _
  cases d with
  | lst xs =>
    obtain ⟨a, vs, rfl, h1, h2⟩ := rep_lst_inv r1
    exact ⟨a, vs, rfl, SqL.of (g1.fh _ _ h1), q1 _ F1 H1 (Gr.refl g1.fh) (itOk_E (SqL.of (G _ _ h1)) h2)⟩
  | scr ns =>
    obtain ⟨a, rfl, h1⟩ := rep_scr_inv r1
    exact ⟨a, _, rfl, g1.fh.sqL h1, q1 _ F1 H1 (Gr.refl g1.fh) (itOk_E (G.sqL h1) (reps_ints _))⟩
  | _ => exact q1.elim

/-! ### comprehensions -/
def R.calm {α : Type} : R α → R α
  | .er _ => .bad
  | r => r
def wipeS (ρ : Store) (vs : List Nat) : Store := vs.foldr (fun v t => t.set v .no) ρ
def lcL (t : Tg) (test : DB) (el : DE) (ρ : Store) : List D → R (List D)
  | [] => .ok []
  | d :: ds => match t.bind d ρ with
    | none => .bad
    | some ρ2 => (test ρ2).calm.bind fun b => match b with
      | true => (el ρ2).calm.bind fun y => (lcL t test el ρ ds).bind fun ys => .ok (y :: ys)
      | false => lcL t test el ρ ds
def lcD (it : DA) (t : Tg) (test : DB) (el : DE) (vs : List Nat) : DE := fun ρ => (it ρ).bind fun ds => if small ds.length = true then (lcL t test el (wipeS ρ vs) ds).bind fun ys => .ok (.lst ys) else .bad
def yesT : DB := fun _ => .ok true
theorem calm_ok {α : Type} {r : R α} {a : α} (h : r.calm = .ok a) : r = .ok a := by
  cases r with
  | ok b => exact h
  | er c => cases h
  | bad => cases h
theorem lcL_len {t : Tg} {test : DB} {el : DE} {ρ : Store} : ∀ {ds ys : List D}, lcL t test el ρ ds = .ok ys → ys.length ≤ ds.length
  | [], ys, h => by cases h; exact Nat.le_refl _
  | d :: ds, ys, h => by
    unfold lcL at h
    split at h
    · cases h
    · rename_i ρ2 _
      cases e1 : (test ρ2).calm with
      | bad => rw [e1] at h; cases h
      | er c => rw [e1] at h; cases h
      | ok b =>
        rw [e1] at h
        cases b with
        | false =>
          have := lcL_len (ds := ds) (ys := ys) h
          simp only [List.length_cons]
          omega
        | true =>
          cases e2 : (el ρ2).calm with
          | bad => rw [bind_ok] at h; simp only [e2] at h; cases h
          | er c => rw [bind_ok] at h; simp only [e2] at h; cases h
          | ok y =>
            rw [bind_ok] at h
            simp only [e2, bind_ok] at h
            cases e3 : lcL t test el ρ ds with
            | bad => rw [e3] at h; cases h
            | er c => rw [e3] at h; cases h
            | ok zs =>
              rw [e3] at h
              cases h
              have := lcL_len (ds := ds) (ys := zs) e3
              simp only [List.length_cons]
              omega
theorem calm_noer {α : Type} {r : R α} {c : Nat} (h : r.calm = .er c) : False := by
  cases r <;> cases h
theorem lcL_noer {t : Tg} {test : DB} {el : DE} {ρ : Store} : ∀ (ds : List D) (c : Nat), lcL t test el ρ ds ≠ .er c
  | [], c, h => by cases h
  | d :: ds, c, h => by
    unfold lcL at h
    split at h
    · cases h
    · rename_i ρ2 _
      cases e1 : (test ρ2).calm with
      | bad => rw [e1] at h; cases h
      | er c => exact calm_noer e1
      | ok b =>
        rw [e1] at h
        cases b with
        | false => exact lcL_noer ds c h
        | true =>
          cases e2 : (el ρ2).calm with
          | bad => rw [bind_ok] at h; simp only [e2] at h; cases h
          | er c => exact calm_noer e2
          | ok y =>
            rw [bind_ok] at h
            simp only [e2, bind_ok] at h
            cases e3 : lcL t test el ρ ds with
            | bad => rw [e3] at h; cases h
            | er c => exact lcL_noer ds c e3
            | ok zs => rw [e3] at h; cases h
abbrev W0 : WX := fun _ _ _ _ => False
theorem FpOk.grow {F H F' H' : Hp} {σ : SS} {ρ : Store} {fp : Nat → Addr → Prop} (ok : FpOk S B F H σ ρ fp) (g : Gr F H F' H') : FpOk S B F' H' σ ρ fp := by
  refine ⟨fun i s e => (ok.rel i s e).grow g.f fun a p => ?_, ok.one, fun i a q => ?_⟩
  · obtain ⟨o, q⟩ := some_ne (ok.at_ i a p).1
    rw [q, g.h a o q]
  · obtain ⟨q1, q2, q3⟩ := ok.at_ i a q
    exact ⟨g.h.ne q1, g.no a q1 q2, q3⟩
/-- an object that no slot owns and that is not shared changes -/
theorem SRel.touch {F H : Hp} {σ : SS} {ρ : Store} {fp : Nat → Addr → Prop} {L : Addr} {o : HO} (r : SRel S B F H σ ρ) (ok : FpOk S B F H σ ρ fp) (nf : ∀ j, ¬ fp j L) (fL : F L = none) (h0 : B.H0 L = none) : SRel S B F (upd H L o) σ ρ ∧ FpOk S B F (upd H L o) σ ρ fp := by
  have k : ∀ j a, fp j a → upd H L o a = H a := fun j a q => upd_ne fun z => nf j (z ▸ q)
  have ok' : FpOk S B F (upd H L o) σ ρ fp := ⟨fun i s e => (ok.rel i s e).grow (.refl _) fun a p => k i a p, ok.one, fun i a q => ⟨by rw [k i a q]; exact (ok.at_ i a q).1, (ok.at_ i a q).2⟩⟩
  refine ⟨⟨fun a u q => ?_, r.f0, fun a u q n => ?_, fun a q => upd_neNone (r.hn a q), r.fn, r.sn, r.len, fp, ok'⟩, ok'⟩
  · rw [upd_ne (fun z => by rw [z, fL] at q; cases q)]
    exact r.fh a u q
  · rw [upd_ne (fun z => by rw [z, h0] at q; cases q)]
    exact r.h0 a u q n
/-- the reading of a comprehension -/
theorem lc_read {J : It} {g : TG} {t : Tg} {tt : TT} {te : TE} {test : DB} {el : DE} {vs : List Nat} {F1 H1 : Hp} {σ : SS} {ρ : Store} {ds ys : List D} {Q : VK} {G : Hp} (hg : TgOk S B g t) (hv : ∀ i ∈ t.ix, i ∈ vs) (htt : ∀ σ H Q, sT S B W0 test σ H Q → tt σ H Q) (hte : ∀ σ H Q, sE S B W0 el σ H Q → te σ H Q)
    (rel : SRel S B F1 H1 σ ρ) (hG : Ex G H1) (it : ItOk S J G F1 ds) (hz : small ds.length = true) (hy : lcL t test el (wipeS ρ vs) ds = .ok ys) (q : ∀ v F' H', Gr F1 H1 F' H' → Rep S F' (.lst ys) v → Q v H') :
    ∀ L, H1 L = none → ∃ W : Nat → Nat → Hp → Prop, (∃ m, W 0 m (upd H1 L (.lst []))) ∧ ∀ i m H, W i m H →
      (J.stop i H ∧ Q (.ref L) H) ∨ (J.go i H ∧ ∃ Nx : Hp → Prop, (∀ H', Nx H' → ∃ m', m' < m ∧ W (i + 1) m' H') ∧ ∀ x H', J.yld i H x H' → g x (wipe σ vs) H' fun σ2 H2 => wipe σ2 vs = wipe σ vs ∧ tt σ2 H2 fun b H3 =>
        if b = true then te σ2 H3 fun y H4 => ∃ acc, H4 L = some (.lst acc) ∧ acc.length < sizeLine ∧ Nx (upd H4 L (.lst (acc ++ [y]))) else Nx H3) := by
  intro L hL
  -- what holds ahead of a turn
  let Inv : Nat → Hp → Prop := fun i H => ∃ F acc done rest, (SRel S B F H σ ρ ∧ ∃ fp, FpOk S B F H σ ρ fp ∧ ∀ j, ¬ fp j L) ∧ Ex F1 F ∧ Ex H1 H ∧ (∀ a, H1 a ≠ none → F1 a = none → F a = none) ∧ F L = none ∧ H L = some (.lst acc) ∧ Reps S F done acc ∧ i ≤ ds.length ∧ done.length ≤ i ∧ lcL t test el (wipeS ρ vs) (ds.drop i) = .ok rest ∧ ys = done ++ rest
  have h0L := rel.h0none hL
  refine ⟨fun i m H => m = ds.length - i ∧ Inv i H, ⟨_, rfl, F1, [], [], ys, ⟨rel.grow (Gr.aside rel.fh hL), by
    obtain ⟨fp, ok⟩ := rel.slots
    exact ⟨fp, ok.grow (Gr.aside rel.fh hL), fun j q => (ok.at_ j L q).1 hL⟩⟩, .refl _, Ex.new hL, fun _ _ h => h, fresh_of rel.fh hL, upd_same, reps_nil, Nat.zero_le _, Nat.le_refl _, hy, rfl⟩, ?_⟩
  rintro i m H ⟨rfl, F, acc, done, rest, ⟨relH, fp, okH, nfH⟩, eF, eH, eno, fL, hLa, hacc, hi, hdl, hrest, hys⟩
  obtain ⟨go, stop⟩ := it F H (hG.trans eH) eF relH.fh i
  by_cases hlt : i < ds.length
  · obtain ⟨hgo, hyld⟩ := go ds[i] (by simp [hlt])
    have hd : ds.drop i = ds[i] :: ds.drop (i + 1) := List.drop_eq_getElem_cons hlt
    rw [hd] at hrest
    refine .inr ⟨hgo, Inv (i + 1), fun H' w => ⟨ds.length - (i + 1), by omega, rfl, w⟩, fun x H' y => ?_⟩
    obtain ⟨F2, g2, r2⟩ := hyld x H' y
    unfold lcL at hrest
    split at hrest
    · cases hrest
    · rename_i ρ2 hb
      have relw : SRel S B F2 H' (wipe σ vs) (wipeS ρ vs) := (relH.grow g2).wipe vs
      refine hg F2 H' (wipe σ vs) (wipeS ρ vs) ρ2 x ds[i] _ relw r2 hb fun σ2 rel2 hw => ⟨by rw [hw vs hv]; exact wipe_wipe σ vs vs fun _ h => h, ?_⟩
      cases e1 : (test ρ2).calm with
      | bad => rw [e1] at hrest; cases hrest
      | er c => rw [e1] at hrest; cases hrest
      | ok b =>
        rw [e1] at hrest
        refine htt _ _ _ ⟨F2, ρ2, rel2, ?_⟩
        rw [calm_ok e1]
        intro b' F3 H3 g3 hb'
        cases hb'
        have gg := g2.trans g3
        have hL3 : H3 L = some (.lst acc) := gg.h _ _ hLa
        have fL3 : F3 L = none := gg.no L (by rw [hLa]; intro z; cases z) fL
        cases b with
        | false =>
          rw [if_neg Bool.false_ne_true]
          refine ⟨F3, acc, done, rest, ⟨relH.grow gg, fp, okH.grow gg, nfH⟩, eF.trans gg.f, eH.trans gg.h, fun a h1 h2 => gg.no a (eH.ne h1) (eno a h1 h2), fL3, hL3, hacc.mono gg.f, hlt, by omega, hrest, hys⟩
        | true =>
          rw [if_pos rfl]
          rw [bind_ok] at hrest
          have hrest : ((el ρ2).calm.bind fun y => (lcL t test el (wipeS ρ vs) (ds.drop (i + 1))).bind fun ys => .ok (y :: ys)) = .ok rest := hrest
          cases e2 : (el ρ2).calm with
          | bad => rw [e2] at hrest; cases hrest
          | er c => rw [e2] at hrest; cases hrest
          | ok z =>
            rw [e2, bind_ok] at hrest
            cases e3 : lcL t test el (wipeS ρ vs) (ds.drop (i + 1)) with
            | bad => rw [e3] at hrest; cases hrest
            | er c => rw [e3] at hrest; cases hrest
            | ok zs =>
              rw [e3] at hrest
              cases hrest
              refine hte _ _ _ ⟨F3, ρ2, rel2.grow g3, ?_⟩
              rw [calm_ok e2]
              intro v F4 H4 g4 rv
              have g5 := gg.trans g4
              have hL4 : H4 L = some (.lst acc) := g5.h _ _ hLa
              have fL4 : F4 L = none := g5.no L (by rw [hLa]; intro z; cases z) fL
              have hlen : acc.length < sizeLine := by
                rw [← hacc.length]
                have := small_le hz
                omega
              refine ⟨acc, hL4, hlen, F4, acc ++ [v], done ++ [z], zs, ?_, eF.trans g5.f, ?_, fun a h1 h2 => g5.no a (eH.ne h1) (eno a h1 h2), fL4, upd_same, (hacc.mono g5.f).append (reps_cons rv reps_nil), hlt, by simp; omega, e3, by rw [hys]; simp⟩
              · obtain ⟨s1, s2⟩ := (relH.grow g5).touch (okH.grow g5) nfH fL4 h0L (o := .lst (acc ++ [v]))
                exact ⟨s1, fp, s2, nfH⟩
              · intro a o qa
                have na : a ≠ L := fun z => by rw [z, hL] at qa; cases qa
                rw [upd_ne na]
                exact g5.h _ _ (eH _ _ qa)
  · have e : i = ds.length := by omega
    refine .inl ⟨stop e, ?_⟩
    rw [e, List.drop_length] at hrest
    cases hrest
    rw [List.append_nil] at hys
    subst hys
    have gL : Ex F (upd F L (.lst acc)) := Ex.new fL
    refine q _ (upd F L (.lst acc)) H ⟨eF.trans gL, eH, fun a o qa => ?_, fun a h1 h2 => ?_⟩ (rep_lst upd_same (hacc.mono gL))
    · by_cases z : a = L
      · subst z
        rw [upd_same] at qa
        rw [hLa]
        exact qa
      · rw [upd_ne z] at qa
        exact relH.fh _ _ qa
    · have z : a ≠ L := fun z => h1 (z ▸ hL)
      rw [upd_ne z]
      exact eno a h1 h2
theorem p_lc {it : DA} {t : Tg} {test : DB} {el : DE} {elt iter : Expr} {ifs : List Expr} {scope : Scope} {own : List (Str × Nat)} {β : Bool} {tt : TT} (hc : X.calm = true) (hN : X.N.Nodup) (hi : PI X tg iter (jI S B W true it)) (ok : BlkOk X.N X.env.scope scope own) (hv : ∀ i ∈ t.ix, i ∈ own.map (·.2))
    (hg : ∃ g, TgOk S B g t ∧ ∀ (s : Shared) (H : Hp) (C : Addr) (cl : List (Str × Addr)) (fp : List Addr), PG (X.blk s H scope (compEnvC scope cl C X.env) fp) tg g)
    (ht : ∀ (s : Shared) (H : Hp) (C : Addr) (cl : List (Str × Addr)) (fp : List Addr), PTs (X.blk s H scope (compEnvC scope cl C X.env) fp) ifs (sT S B W0 test))
    (he : ∀ (s : Shared) (H : Hp) (C : Addr) (cl : List (Str × Addr)) (fp : List Addr), PE (X.blk s H scope (compEnvC scope cl C X.env) fp) elt (sE S B W0 el)) (hs : ∀ x, foldedSetIterable iter X.env x = pure x := by intro _; rfl) :
    PE X (.ListComp elt [⟨tg, iter, ifs, 0⟩] scope pos) (sE S B W (lcD it t test el (own.map (·.2)))) := by
  obtain ⟨g, h1, h2⟩ := hg
  exact pe_imp (pe_lc hc hN hi ok h2 ht he hs) fun σ H Q ⟨F, ρ, rel, q⟩ => by
    refine bindG rel q fun ds J F1 H1 _ g1 it1 q1 => ?_
    split at q1
    · rename_i cz
      cases hy : lcL t test el (wipeS ρ (own.map (·.2))) ds with
      | bad => rw [hy] at q1; exact q1.elim
      | er c =>
        exact absurd hy (lcL_noer ds c)
      | ok ys =>
        rw [hy] at q1
        exact lc_read h1 hv (fun _ _ _ h => h) (fun _ _ _ h => h) (rel.grow g1) (.refl _) it1 cz hy q1
    · exact q1.elim
end
end Vi

/-! Vi6: statements, loops. -/
namespace Vi
open PySem PySem.Spec PyProof.Rows L2
section
variable {X : Cx} {S : Sg} {B : Bs} {W : WX} {e a b c tg : Expr} {es : List Expr} {pos : Pos} {st : Stmt} {sts rest : List Stmt}
theorem tg_nm (i : Nat) : TgOk S B (gName i) (.nm i) := fun F H σ ρ ρ' x d Q rel r hb q => by
  cases hb
  exact q _ (rel.setSh r) fun vs h => wipe_set (h i (by simp [Tg.ix]))
theorem tgs_nil : TgsOk S B gNil [] := fun F H σ ρ ρ' xs ds Q rel r hb q => by
  cases ds with
  | nil =>
    cases hb
    rw [reps_nil_inv r]
    exact ⟨rfl, q σ rel fun _ _ => rfl⟩
  | cons _ _ => cases hb
theorem tgs_cons (i : Nat) {g : TGs} {is : List Nat} (h2 : TgsOk S B g is) : TgsOk S B (gCons (gName i) g) (i :: is) := fun F H σ ρ ρ' xs ds Q rel r hb q => by
  cases ds with
  | nil => cases hb
  | cons d ds =>
    obtain ⟨v, w, rfl, r1, r2⟩ := reps_cons_inv r
    refine ⟨v, w, rfl, ?_⟩
    refine h2 F H _ _ ρ' w ds Q (rel.setSh r1) r2 hb fun σ' rel' hw => q σ' rel' fun vs h => ?_
    rw [hw vs fun j hj => h j (List.mem_cons_of_mem _ hj)]
    exact wipe_set (h i List.mem_cons_self)
theorem tg_tp {g : TGs} {is : List Nat} {K : PySem.W.Frag} (h2 : TgsOk S B g is) : TgOk S B (gTup K is.length g) (.tp is) := fun F H σ ρ ρ' x d Q rel r hb q => by
  cases d with
  | tup ds =>
    obtain ⟨a, vs, rfl, h3, h4⟩ := rep_tup_inv r
    exact ⟨a, vs, rfl, SqT.of (rel.fh _ _ h3), by rw [← h4.length]; exact setAll_len hb, h2 F H σ ρ ρ' vs ds Q rel h4 hb q⟩
  | _ => cases hb
theorem f_nil : PTs X [] (sT S B W yesT) := ⟨fun pins s σ H Q I ⟨F, ρ, rel, q⟩ => pts_nil.run pins s σ H Q I (q true F H (Gr.refl rel.fh) rfl)⟩
theorem f_one {f : DB} (h : PT X c (sT S B W f)) : PTs X [c] (sT S B W f) := pts_one h

/-! ### statements -/
inductive Out where
  | nx (ρ : Store) | rt (d : D) | rn (xs : List D) | bk (ρ : Store) | ct (ρ : Store) | er (c : Nat) (ρ : Store) | bad
abbrev SS_ := Store → Out
def Post (S : Sg) (B : Bs) (W : WX) (F : Hp) (D : Ends) : Out → Prop
  | .nx ρ' => ∀ F' H' σ', Ex F F' → SRel S B F' H' σ' ρ' → D.nx σ' H'
  | .rt d => ∀ v F' H' σ' ρ', Ex F F' → SRel S B F' H' σ' ρ' → Rep S F' d v → D.rt v H'
  | .rn xs => ∀ l vs F' H' σ' ρ', Ex F F' → SRel S B F' H' σ' ρ' → B.H0 l = none → F' l = none → H' l = some (.lst vs) → Reps S F' xs vs → D.rt (.ref l) H'
  | .bk ρ' => ∀ F' H' σ', Ex F F' → SRel S B F' H' σ' ρ' → D.bk σ' H'
  | .ct ρ' => ∀ F' H' σ', Ex F F' → SRel S B F' H' σ' ρ' → D.ct σ' H'
  | .er c ρ' => ∀ F' H' σ', Ex F F' → SRel S B F' H' σ' ρ' → W (cl S c) none σ' H'
  | .bad => False
def tS (S : Sg) (B : Bs) (W : WX) (s : SS_) : TS := fun D σ H => ∃ F ρ, SRel S B F H σ ρ ∧ Post S B W F D (s ρ)
theorem Post.grow {F F' : Hp} {D : Ends} {o : Out} (e : Ex F F') (h : Post S B W F D o) : Post S B W F' D o := by
  cases o with
  | nx ρ' => exact fun F2 H2 σ2 e2 r => h F2 H2 σ2 (e.trans e2) r
  | rt d => exact fun v F2 H2 σ2 ρ2 e2 r => h v F2 H2 σ2 ρ2 (e.trans e2) r
  | rn xs => exact fun l vs F2 H2 σ2 ρ2 e2 r => h l vs F2 H2 σ2 ρ2 (e.trans e2) r
  | bk ρ' => exact fun F2 H2 σ2 e2 r => h F2 H2 σ2 (e.trans e2) r
  | ct ρ' => exact fun F2 H2 σ2 e2 r => h F2 H2 σ2 (e.trans e2) r
  | er c ρ' => exact fun F2 H2 σ2 e2 r => h F2 H2 σ2 (e.trans e2) r
  | bad => exact h
theorem ps_imp {t t' : TS} (h : PS X st t) (q : ∀ D σ H, t' D σ H → t D σ H) : PS X st t' := ⟨fun pins s σ H D I w => h.run pins s σ H D I (q D σ H w)⟩
theorem pss_imp {t t' : TS} (h : PSs X sts t) (q : ∀ D σ H, t' D σ H → t D σ H) : PSs X sts t' := ⟨fun pins s σ H D I w => h.run pins s σ H D I (q D σ H w)⟩
/-- an expression's worth ahead of a statement's end -/
def R.then {α : Type} (r : R α) (ρ : Store) (k : α → Out) : Out := match r with
  | .ok a => k a
  | .er c => .er c ρ
  | .bad => .bad
@[simp] theorem then_ok {α : Type} (a : α) (ρ : Store) (k : α → Out) : (R.ok a).then ρ k = k a := rfl
@[simp] theorem then_er {α : Type} (c : Nat) (ρ : Store) (k : α → Out) : (R.er c : R α).then ρ k = .er c ρ := rfl
@[simp] theorem then_bad {α : Type} (ρ : Store) (k : α → Out) : (R.bad : R α).then ρ k = .bad := rfl
theorem bindS {α υ : Type} {rep : Hp → Hp → α → υ → Prop} {f : Store → R α} {k : α → Out} {D : Ends} {F H : Hp} {σ : SS} {ρ : Store} {G : υ → Hp → Prop} (rel : SRel S B F H σ ρ) (h : Post S B W F D ((f ρ).then ρ k))
    (hk : ∀ a v F1 H1, f ρ = .ok a → Gr F H F1 H1 → rep F1 H1 a v → Post S B W F1 D (k a) → G v H1) : tG S B W rep f σ H G := by
  refine ⟨F, ρ, rel, ?_⟩
  cases e : f ρ with
  | ok a =>
    rw [e] at h
    exact fun v F1 H1 g r => hk a v F1 H1 e g r (h.grow g.f)
  | er c =>
    rw [e] at h
    exact fun F' H' g => h F' H' σ g.f (rel.grow g)
  | bad =>
    rw [e] at h
    exact h.elim

def skipS : SS_ := fun ρ => .nx ρ
def seqS (s t : SS_) : SS_ := fun ρ => match s ρ with
  | .nx ρ' => t ρ'
  | o => o
theorem s_nil : PSs X [] (tS S B W skipS) := pss_imp pss_nil fun D σ H ⟨F, ρ, rel, q⟩ => q F H σ (.refl _) rel
theorem s_cons {s t : SS_} (h1 : PS X st (tS S B W s)) (h2 : PSs X rest (tS S B W t)) : PSs X (st :: rest) (tS S B W (seqS s t)) := pss_imp (pss_cons h1 h2) fun D σ H ⟨F, ρ, rel, q⟩ => by
  refine ⟨F, ρ, rel, ?_⟩
  unfold seqS at q
  cases e : s ρ with
  | nx ρ' =>
    rw [e] at q
    exact fun F' H' σ' e' r => ⟨F', ρ', r, q.grow e'⟩
  | rt d => rw [e] at q; exact q
  | rn d => rw [e] at q; exact q
  | bk ρ' => rw [e] at q; exact q
  | ct ρ' => rw [e] at q; exact q
  | er c ρ' => rw [e] at q; exact q
  | bad => rw [e] at q; exact q
theorem s_one {s : SS_} (h1 : PS X st (tS S B W s)) : PSs X [st] (tS S B W s) := pss_one h1
theorem s_pass : PS X (.Pass pos) (tS S B W skipS) := ps_imp ps_pass fun D σ H ⟨F, ρ, rel, q⟩ => q F H σ (.refl _) rel
theorem s_doc {x : Str} {j : Nat} {p p' : Pos} : PS X (.Expr (.Constant (.str x) j p) p') (tS S B W skipS) := ps_imp ps_doc fun D σ H ⟨F, ρ, rel, q⟩ => q F H σ (.refl _) rel
def brkS : SS_ := fun ρ => .bk ρ
def cntS : SS_ := fun ρ => .ct ρ
theorem s_brk : PS X (.Break pos) (tS S B W brkS) := ps_imp ps_break fun D σ H ⟨F, ρ, rel, q⟩ => q F H σ (.refl _) rel
theorem s_cnt : PS X (.Continue pos) (tS S B W cntS) := ps_imp ps_continue fun D σ H ⟨F, ρ, rel, q⟩ => q F H σ (.refl _) rel
def retS (f : DE) : SS_ := fun ρ => (f ρ).then ρ fun d => .rt d
theorem s_ret {f : DE} (h : PE X e (sE S B W f)) : PS X (.Return (some e) pos) (tS S B W (retS f)) := ps_imp (ps_ret h) fun D σ H ⟨F, ρ, rel, q⟩ =>
  bindS rel q fun d v F1 H1 _ g r q1 => q1 v F1 H1 σ ρ (.refl _) (rel.grow g) r
def retN : SS_ := fun _ => .rt .non
theorem s_retN : PS X (.Return none pos) (tS S B W retN) := ps_imp ps_retN fun D σ H ⟨F, ρ, rel, q⟩ => q _ F H σ ρ (.refl _) rel rep_non
def ifS (c : DB) (s t : SS_) : SS_ := fun ρ => (c ρ).then ρ fun b => match b with
  | true => s ρ
  | false => t ρ
theorem s_if {f : DB} {s t : SS_} {A1 B1 : List Stmt} (hc : PT X c (sT S B W f)) (ha : PSs X A1 (tS S B W s)) (hb : PSs X B1 (tS S B W t)) : PS X (.If c A1 B1 pos) (tS S B W (ifS f s t)) := ps_imp (ps_if hc ha hb) fun D σ H ⟨F, ρ, rel, q⟩ =>
  bindS rel q fun d v F1 H1 _ g r q1 => by
    cases r
    cases d with
    | true => rw [if_pos rfl]; exact ⟨F1, ρ, rel.grow g, q1⟩
    | false => rw [if_neg Bool.false_ne_true]; exact ⟨F1, ρ, rel.grow g, q1⟩
/-- x = e, a, b = e: shared -/
def asgS (t : Tg) (f : DE) : SS_ := fun ρ => (f ρ).then ρ fun d => match t.bind d ρ with
  | some ρ' => .nx ρ'
  | none => .bad
theorem asg_read {t : Tg} {f : DE} {g : TG} (hg : TgOk S B g t) {D : Ends} {σ : SS} {H : Hp} (h : tS S B W (asgS t f) D σ H) : tAsg (sE S B W f) g D σ H := by
  obtain ⟨F, ρ, rel, q⟩ := h
  refine bindS rel q fun d v F1 H1 _ g1 r q1 => ?_
  cases hb : t.bind d ρ with
  | none => rw [hb] at q1; exact q1.elim
  | some ρ' =>
    rw [hb] at q1
    exact hg F1 H1 σ ρ ρ' v d _ (rel.grow g1) r hb fun σ' r' _ => q1 F1 H1 σ' (.refl _) r'
theorem s_set (i : Nat) {f : DE} {x : Str} {p : Pos} (hN : X.N.Nodup) (h : PE X e (sE S B W f)) (hi : X.N[i]? = some x := by rfl) (hx : Loc X.env.scope x := by first | exact Or.inl rfl | exact Or.inr rfl) (hs : swapsWith e (some (.Name x p)) pos.line X.env = pure false := by rfl)
    (hf : X.fn x = true ∨ X.env.scope.names.lookup x = some .local := by first | exact .inl rfl | exact .inr rfl) : PS X (.Assign [.Name x p] e pos) (tS S B W (asgS (.nm i) f)) := ps_imp (ps_set hN hi hx h hs hf) fun D σ H h => asg_read (tg_nm i) h
theorem s_asg {t : Tg} {f : DE} (hg : PTg X S B tg t) (h : PE X e (sE S B W f)) (hs : swapsWithSole [tg] e pos.line X.env = pure false := by rfl) (hw : swappedStores [tg] e X.env = pure none := by rfl) (h1 : (assignEach [tg] X.env).map (·.2) = [assign tg X.env] := by rfl) :
    PS X (.Assign [tg] e pos) (tS S B W (asgS t f)) := by
  obtain ⟨g, g1, g2⟩ := hg.ex
  exact ps_imp (ps_asg h g1 hs hw h1) fun D σ H h => asg_read g2 h
/-- x = [.. for ..] on one line, x a local -/
theorem s_setLc (i : Nat) {x : Str} {p : Pos} {it : DA} {t : Tg} {test : DB} {el : DE} {elt iter : Expr} {ifs : List Expr} {scope : Scope} {own : List (Str × Nat)} (hc : X.calm = true) (hN : X.N.Nodup) (hi : PI X tg iter (jI S B W true it)) (ok : BlkOk X.N X.env.scope scope own) (hv : ∀ i ∈ t.ix, i ∈ own.map (·.2))
    (hg : ∃ g, TgOk S B g t ∧ ∀ (s : Shared) (H : Hp) (C : Addr) (cl : List (Str × Addr)) (fp : List Addr), PG (X.blk s H scope (compEnvC scope cl C X.env) fp) tg g)
    (ht : ∀ (s : Shared) (H : Hp) (C : Addr) (cl : List (Str × Addr)) (fp : List Addr), PTs (X.blk s H scope (compEnvC scope cl C X.env) fp) ifs (sT S B W0 test))
    (he : ∀ (s : Shared) (H : Hp) (C : Addr) (cl : List (Str × Addr)) (fp : List Addr), PE (X.blk s H scope (compEnvC scope cl C X.env) fp) elt (sE S B W0 el)) (hy : X.N[i]? = some x := by rfl) (hyl : X.env.scope.names.lookup x = some .local := by rfl)
    (hsw : swapsWith (.ListComp elt [⟨tg, iter, ifs, 0⟩] scope pos) (some (.Name x p)) pos.line X.env = pure true := by exact sw_true rfl rfl rfl (by decide +kernel)) (hs : ∀ x, foldedSetIterable iter X.env x = pure x := by intro _; rfl) {spos : Pos} (hsp : spos.line = pos.line := by rfl) :
    PS X (.Assign [.Name x p] (.ListComp elt [⟨tg, iter, ifs, 0⟩] scope pos) spos) (tS S B W (asgS (.nm i) (lcD it t test el (own.map (·.2))))) := by
  obtain ⟨g, h1, h2⟩ := hg
  refine ps_imp (ps_setLc hc hN hy hyl (by rw [hsp]; exact hsw) hi ok h2 ht he hs) fun D σ H h => ?_
  obtain ⟨F, ρ, rel, q⟩ := h
  have q' : Post S B W F D ((it ρ).then ρ fun ds => if small ds.length = true then ((lcL t test el (wipeS ρ (own.map (·.2))) ds).bind fun ys => .ok (Vi.D.lst ys)).then ρ (fun d => .nx (ρ.set i (.sh d))) else .bad) := by
    unfold asgS lcD at q
    cases e : it ρ with
    | ok ds =>
      rw [e] at q
      simp only [bind_ok, then_ok] at q ⊢
      split
      · rename_i c
        rw [if_pos c] at q
        exact q
      · rename_i c
        rw [if_neg c] at q
        exact q
    | er c => rw [e] at q; exact q
    | bad => rw [e] at q; exact q
  refine bindS rel q' fun ds J F1 H1 _ g1 it1 q1 => ?_
  split at q1
  · rename_i cz
    cases hyy : lcL t test el (wipeS ρ (own.map (·.2))) ds with
    | bad => rw [hyy] at q1; exact q1.elim
    | er c => exact absurd hyy (lcL_noer ds c)
    | ok ys =>
      rw [hyy] at q1
      refine lc_read (Q := fun v H' => D.nx (σ.set i (some v)) H') h1 hv (fun _ _ _ h => h) (fun _ _ _ h => h) (rel.grow g1) (.refl _) it1 cz hyy fun v F' H' g2 r => ?_
      exact q1 F' H' _ g2.f (((rel.grow g1).grow g2).setSh r)
  · exact q1.elim

/-! ### one's own lists and dicts -/
/-- x = e, e a new list: x's own -/
def ownS (i : Nat) (g : DA) : SS_ := fun ρ => (g ρ).then ρ fun ds => if small ds.length = true then .nx (ρ.set i (.ol ds)) else .bad
theorem s_own (i : Nat) {g : DA} {x : Str} {p p2 : Pos} (hN : X.N.Nodup) (h : PA X es (sA S B W g)) (hi : X.N[i]? = some x := by rfl) (hx : Loc X.env.scope x := by first | exact Or.inl rfl | exact Or.inr rfl) (hs : swapsWith (.List es p2) (some (.Name x p)) pos.line X.env = pure false := by rfl)
    (hf : X.fn x = true ∨ X.env.scope.names.lookup x = some .local := by first | exact .inl rfl | exact .inr rfl) : PS X (.Assign [.Name x p] (.List es p2) pos) (tS S B W (ownS i g)) := ps_imp (ps_set hN hi hx (pe_lst h) hs hf) fun D σ H ⟨F, ρ, rel, q⟩ => by
  refine bindS rel q fun ds vs F1 H1 _ g1 r1 q1 => ?_
  split at q1
  · rename_i c
    refine ⟨by rw [← r1.length]; exact small_le c, fun p hp => ?_⟩
    exact q1 F1 _ _ (.refl _) ((rel.grow g1).newOl hp r1)
  · exact q1.elim
/-- x = list(e), x's own -/
def ownListS (i : Nat) (f : DE) : SS_ := fun ρ => (f ρ).then ρ fun d => match listD d with
  | some (.lst xs) => .nx (ρ.set i (.ol xs))
  | _ => .bad
theorem s_ownList (i : Nat) {f : DE} {x : Str} {p p1 p2 : Pos} (hN : X.N.Nodup) (ha : PE X e (iE S B W f)) (hm : X.mg "list" = none) (hK : S.K = X.K := by rfl) (he : starEach (e :: []) X.env = (false, eval e X.env) :: starEach [] X.env := by rfl) (hpl : (backTo p2 (starEach [] X.env)).any (·.1) = false := by rfl) (hg : Gl X "list" := by rfl)
    (hi : X.N[i]? = some x := by rfl) (hx : Loc X.env.scope x := by first | exact Or.inl rfl | exact Or.inr rfl) (hs : swapsWith (.Call (.Name "list" p1) [e] [] p2) (some (.Name x p)) pos.line X.env = pure false := by rfl)
    (hf : X.fn x = true ∨ X.env.scope.names.lookup x = some .local := by first | exact .inl rfl | exact .inr rfl) : PS X (.Assign [.Name x p] (.Call (.Name "list" p1) [e] [] p2) pos) (tS S B W (ownListS i f)) :=
  ps_imp (ps_set hN hi hx (pe_callTy call_list_of hg hm PyProof.Rows.boot_list (pa_cons ha pa_nil he) (by decide) (by decide) he hpl) hs hf) fun D σ H ⟨F, ρ, rel, q⟩ => by
  refine bindS rel q fun d v F1 H1 _ g1 r1 q1 => ?_
  rw [← hK]
  cases d with
  | lst xs =>
    obtain ⟨a, vs, rfl, h1, h2⟩ := r1.lst g1.fh
    exact ⟨a, vs, rfl, .inl (SqL.of h1), fun l hl => q1 F1 _ _ (.refl _) ((rel.grow g1).newOl hl h2)⟩
  | tup xs =>
    obtain ⟨a, vs, rfl, h1, h2⟩ := rep_tup_inv (r1.sh (fun _ z => nomatch z) fun _ _ z => nomatch z)
    exact ⟨a, vs, rfl, .inr (SqT.of (g1.fh _ _ h1)), fun l hl => q1 F1 _ _ (.refl _) ((rel.grow g1).newOl hl h2)⟩
  | scr ns =>
    obtain ⟨a, rfl, h1⟩ := rep_scr_inv (r1.sh (fun _ z => nomatch z) fun _ _ z => nomatch z)
    exact ⟨a, _, rfl, .inl (g1.fh.sqL h1), fun l hl => q1 F1 _ _ (.refl _) ((rel.grow g1).newOl hl (reps_ints _))⟩
  | _ => exact q1.elim
/-- x = [.. for ..], x's own -/
def ownLcS (i : Nat) (f : DE) : SS_ := fun ρ => (f ρ).then ρ fun d => match d with
  | .lst xs => .nx (ρ.set i (.ol xs))
  | _ => .bad
/-- the reading of a comprehension whose list is handed on as one's own -/
theorem lc_own {J : It} {g : TG} {t : Tg} {test : DB} {el : DE} {vs : List Nat} {F1 H1 : Hp} {σ : SS} {ρ : Store} {ds ys : List D} {Q : VK} {G : Hp} (hg : TgOk S B g t) (hv : ∀ i ∈ t.ix, i ∈ vs)
    (rel : SRel S B F1 H1 σ ρ) (hG : Ex G H1) (it : ItOk S J G F1 ds) (hz : small ds.length = true) (hy : lcL t test el (wipeS ρ vs) ds = .ok ys)
    (q : ∀ (L : Addr) (acc : List V) (F' H' : Hp), (H1 L = none ∧ ∀ a, H1 a ≠ none → F1 a = none → F' a = none) → Ex F1 F' → Ex H1 H' → SRel S B F' H' σ ρ → (∃ fp, FpOk S B F' H' σ ρ fp ∧ ∀ j, ¬ fp j L) → F' L = none → B.H0 L = none → B.self ≠ some L → H' L = some (.lst acc) → Reps S F' ys acc → Q (.ref L) H') :
    ∀ L, H1 L = none → ∃ W : Nat → Nat → Hp → Prop, (∃ m, W 0 m (upd H1 L (.lst []))) ∧ ∀ i m H, W i m H →
      (J.stop i H ∧ Q (.ref L) H) ∨ (J.go i H ∧ ∃ Nx : Hp → Prop, (∀ H', Nx H' → ∃ m', m' < m ∧ W (i + 1) m' H') ∧ ∀ x H', J.yld i H x H' → g x (wipe σ vs) H' fun σ2 H2 => wipe σ2 vs = wipe σ vs ∧ sT S B W0 test σ2 H2 fun b H3 =>
        if b = true then sE S B W0 el σ2 H3 fun y H4 => ∃ acc, H4 L = some (.lst acc) ∧ acc.length < sizeLine ∧ Nx (upd H4 L (.lst (acc ++ [y]))) else Nx H3) := by
  intro L hL
  let Inv : Nat → Hp → Prop := fun i H => ∃ F acc done rest, (SRel S B F H σ ρ ∧ ∃ fp, FpOk S B F H σ ρ fp ∧ ∀ j, ¬ fp j L) ∧ Ex F1 F ∧ (Ex H1 H ∧ ∀ a, H1 a ≠ none → F1 a = none → F a = none) ∧ F L = none ∧ H L = some (.lst acc) ∧ Reps S F done acc ∧ i ≤ ds.length ∧ done.length ≤ i ∧ lcL t test el (wipeS ρ vs) (ds.drop i) = .ok rest ∧ ys = done ++ rest
  have h0L := rel.h0none hL
  refine ⟨fun i m H => m = ds.length - i ∧ Inv i H, ⟨_, rfl, F1, [], [], ys, ⟨rel.grow (Gr.aside rel.fh hL), by
    obtain ⟨fp, ok⟩ := rel.slots
    exact ⟨fp, ok.grow (Gr.aside rel.fh hL), fun j q => (ok.at_ j L q).1 hL⟩⟩, .refl _, ⟨Ex.new hL, fun _ _ z => z⟩, fresh_of rel.fh hL, upd_same, reps_nil, Nat.zero_le _, Nat.le_refl _, hy, rfl⟩, ?_⟩
  rintro i m H ⟨rfl, F, acc, done, rest, ⟨relH, fp, okH, nfH⟩, eF, ⟨eH, eN⟩, fL, hLa, hacc, hi, hdl, hrest, hys⟩
  obtain ⟨go, stop⟩ := it F H (hG.trans eH) eF relH.fh i
  by_cases hlt : i < ds.length
  · obtain ⟨hgo, hyld⟩ := go ds[i] (by simp [hlt])
    have hd : ds.drop i = ds[i] :: ds.drop (i + 1) := List.drop_eq_getElem_cons hlt
    rw [hd] at hrest
    refine .inr ⟨hgo, Inv (i + 1), fun H' w => ⟨ds.length - (i + 1), by omega, rfl, w⟩, fun x H' y => ?_⟩
    obtain ⟨F2, g2, r2⟩ := hyld x H' y
    unfold lcL at hrest
    split at hrest
    · cases hrest
    · rename_i ρ2 hb
      have relw : SRel S B F2 H' (wipe σ vs) (wipeS ρ vs) := (relH.grow g2).wipe vs
      refine hg F2 H' (wipe σ vs) (wipeS ρ vs) ρ2 x ds[i] _ relw r2 hb fun σ2 rel2 hw => ⟨by rw [hw vs hv]; exact wipe_wipe σ vs vs fun _ h => h, ?_⟩
      cases e1 : (test ρ2).calm with
      | bad => rw [e1] at hrest; cases hrest
      | er c => rw [e1] at hrest; cases hrest
      | ok b =>
        rw [e1] at hrest
        refine ⟨F2, ρ2, rel2, ?_⟩
        rw [calm_ok e1]
        intro b' F3 H3 g3 hb'
        cases hb'
        have gg := g2.trans g3
        have hL3 : H3 L = some (.lst acc) := gg.h _ _ hLa
        have fL3 : F3 L = none := gg.no L (by rw [hLa]; intro z; cases z) fL
        cases b with
        | false =>
          rw [if_neg Bool.false_ne_true]
          refine ⟨F3, acc, done, rest, ⟨relH.grow gg, fp, okH.grow gg, nfH⟩, eF.trans gg.f, ⟨eH.trans gg.h, fun a z1 z2 => gg.no a (eH.ne z1) (eN a z1 z2)⟩, fL3, hL3, hacc.mono gg.f, hlt, by omega, hrest, hys⟩
        | true =>
          rw [if_pos rfl]
          rw [bind_ok] at hrest
          have hrest : ((el ρ2).calm.bind fun y => (lcL t test el (wipeS ρ vs) (ds.drop (i + 1))).bind fun ys => .ok (y :: ys)) = .ok rest := hrest
          cases e2 : (el ρ2).calm with
          | bad => rw [e2] at hrest; cases hrest
          | er c => rw [e2] at hrest; cases hrest
          | ok z =>
            rw [e2, bind_ok] at hrest
            cases e3 : lcL t test el (wipeS ρ vs) (ds.drop (i + 1)) with
            | bad => rw [e3] at hrest; cases hrest
            | er c => rw [e3] at hrest; cases hrest
            | ok zs =>
              rw [e3] at hrest
              cases hrest
              refine ⟨F3, ρ2, rel2.grow g3, ?_⟩
              rw [calm_ok e2]
              intro v F4 H4 g4 rv
              have g5 := gg.trans g4
              have hL4 : H4 L = some (.lst acc) := g5.h _ _ hLa
              have fL4 : F4 L = none := g5.no L (by rw [hLa]; intro z; cases z) fL
              have hlen : acc.length < sizeLine := by
                rw [← hacc.length]
                have := small_le hz
                omega
              refine ⟨acc, hL4, hlen, F4, acc ++ [v], done ++ [z], zs, ?_, eF.trans g5.f, ⟨?_, fun a z1 z2 => g5.no a (eH.ne z1) (eN a z1 z2)⟩, fL4, upd_same, (hacc.mono g5.f).append (reps_cons rv reps_nil), hlt, by simp; omega, e3, by rw [hys]; simp⟩
              · obtain ⟨s1, s2⟩ := (relH.grow g5).touch (okH.grow g5) nfH fL4 h0L (o := .lst (acc ++ [v]))
                exact ⟨s1, fp, s2, nfH⟩
              · intro a o qa
                have na : a ≠ L := fun z => by rw [z, hL] at qa; cases qa
                rw [upd_ne na]
                exact g5.h _ _ (eH _ _ qa)
  · have e : i = ds.length := by omega
    refine .inl ⟨stop e, ?_⟩
    rw [e, List.drop_length] at hrest
    cases hrest
    rw [List.append_nil] at hys
    subst hys
    exact q L acc F H ⟨hL, eN⟩ eF eH relH ⟨fp, okH, nfH⟩ fL h0L (rel.selfne hL) hLa hacc
/-- a list that stands aside becomes a slot's own -/
theorem SRel.takeOl {F H : Hp} {σ : SS} {ρ : Store} {fp : Nat → Addr → Prop} {i : Nat} {L : Addr} {xs : List D} {vs : List V} (r : SRel S B F H σ ρ) (ok : FpOk S B F H σ ρ fp) (nf : ∀ j, ¬ fp j L) (fL : F L = none) (h0 : B.H0 L = none) (hs : B.self ≠ some L) (hL : H L = some (.lst vs)) (h : Reps S F xs vs) :
    SRel S B F H (σ.set i (some (.ref L))) (ρ.set i (.ol xs)) :=
  r.upd1 ok (fun b => b = L) (.refl _) r.fh r.h0 r.hn r.fn (fun _ => ⟨L, vs, rfl, hL, h, hs, fun _ => Iff.rfl⟩) (fun a e => by
    subst e
    exact ⟨(by rw [hL]; intro z; cases z), fL, .inl h0⟩) fun j a _ q => ⟨fun z => nf j (z ▸ q), rfl, (ok.at_ j a q).2.1⟩
theorem s_ownLc (i : Nat) {x : Str} {p : Pos} {it : DA} {t : Tg} {test : DB} {el : DE} {elt iter : Expr} {ifs : List Expr} {scope : Scope} {own : List (Str × Nat)} (hc : X.calm = true) (hN : X.N.Nodup) (hi : PI X tg iter (jI S B W true it)) (ok : BlkOk X.N X.env.scope scope own) (hv : ∀ i ∈ t.ix, i ∈ own.map (·.2))
    (hg : ∃ g, TgOk S B g t ∧ ∀ (s : Shared) (H : Hp) (C : Addr) (cl : List (Str × Addr)) (fp : List Addr), PG (X.blk s H scope (compEnvC scope cl C X.env) fp) tg g)
    (ht : ∀ (s : Shared) (H : Hp) (C : Addr) (cl : List (Str × Addr)) (fp : List Addr), PTs (X.blk s H scope (compEnvC scope cl C X.env) fp) ifs (sT S B W0 test))
    (he : ∀ (s : Shared) (H : Hp) (C : Addr) (cl : List (Str × Addr)) (fp : List Addr), PE (X.blk s H scope (compEnvC scope cl C X.env) fp) elt (sE S B W0 el)) {spos : Pos}
    (hps : (∃ hy : X.N[i]? = some x, ∃ hyl : X.env.scope.names.lookup x = some .local, swapsWith (.ListComp elt [⟨tg, iter, ifs, 0⟩] scope pos) (some (.Name x p)) spos.line X.env = pure true) ∨
      (∃ hy : X.N[i]? = some x, ∃ hyl : Loc X.env.scope x, swapsWith (.ListComp elt [⟨tg, iter, ifs, 0⟩] scope pos) (some (.Name x p)) spos.line X.env = pure false ∧ (X.fn x = true ∨ X.env.scope.names.lookup x = some .local))) (hs : ∀ x, foldedSetIterable iter X.env x = pure x := by intro _; rfl) :
    PS X (.Assign [.Name x p] (.ListComp elt [⟨tg, iter, ifs, 0⟩] scope pos) spos) (tS S B W (ownLcS i (lcD it t test el (own.map (·.2))))) := by
  obtain ⟨g, h1, h2⟩ := hg
  have ps : PS X (.Assign [.Name x p] (.ListComp elt [⟨tg, iter, ifs, 0⟩] scope pos) spos) (tAsg (tLc (jI S B W true it) g (sT S B W0 test) (sE S B W0 el) (own.map (·.2))) (gName i)) := by
    rcases hps with ⟨hy, hyl, hsw⟩ | ⟨hy, hyl, hsw, hf⟩
    · exact ps_setLc hc hN hy hyl hsw hi ok h2 ht he hs
    · exact ps_set hN hy hyl (pe_lc hc hN hi ok h2 ht he hs) hsw hf
  refine ps_imp ps fun D σ H h => ?_
  obtain ⟨F, ρ, rel, q⟩ := h
  have q' : Post S B W F D ((it ρ).then ρ fun ds => if small ds.length = true then ((lcL t test el (wipeS ρ (own.map (·.2))) ds).bind fun ys => .ok (Vi.D.lst ys)).then ρ (fun (d : Vi.D) => match d with
      | Vi.D.lst xs => Out.nx (ρ.set i (.ol xs))
      | _ => Out.bad) else .bad) := by
    unfold ownLcS lcD at q
    cases e : it ρ with
    | ok ds =>
      rw [e] at q
      simp only [bind_ok, then_ok] at q ⊢
      split
      · rename_i c
        rw [if_pos c] at q
        exact q
      · rename_i c
        rw [if_neg c] at q
        exact q
    | er c => rw [e] at q; exact q
    | bad => rw [e] at q; exact q
  refine bindS rel q' fun ds J F1 H1 _ g1 it1 q1 => ?_
  split at q1
  · rename_i cz
    cases hyy : lcL t test el (wipeS ρ (own.map (·.2))) ds with
    | bad => rw [hyy] at q1; exact q1.elim
    | er c => exact absurd hyy (lcL_noer ds c)
    | ok ys =>
      rw [hyy] at q1
      refine lc_own (Q := fun v H' => D.nx (σ.set i (some v)) H') h1 hv (rel.grow g1) (.refl _) it1 cz hyy fun L acc F' H' _ eF eH rel' ⟨fp, ok', nf⟩ fL h0 hs hL ha => ?_
      exact q1 F' H' _ eF (rel'.takeOl ok' nf fL h0 hs hL ha)
  · exact q1.elim
/-- x = {}, x's own -/
def ownDctS (i : Nat) : SS_ := fun ρ => .nx (ρ.set i (.od [] []))
/-- the ghost step: what is one's own becomes shared -/
def freeze (i : Nat) (ρ : Store) : Store := match ρ[i]? with
  | some (.ol xs) => ρ.set i (.sh (.lst xs))
  | some (.od ks xs) => ρ.set i (.sh (.dct ks xs))
  | _ => ρ
def frzS (is : List Nat) (s : SS_) : SS_ := fun ρ => s (is.foldl (fun t i => freeze i t) ρ)
theorem SRel.freeze {F H : Hp} {σ : SS} {ρ : Store} (r : SRel S B F H σ ρ) (i : Nat) : ∃ F', Ex F F' ∧ SRel S B F' H σ (freeze i ρ) := by
  unfold Vi.freeze
  split
  · rename_i xs e
    exact r.shareOl e
  · rename_i ks xs e
    exact r.shareOd e
  · exact ⟨F, .refl _, r⟩
theorem SRel.freezes {H : Hp} {σ : SS} : ∀ (is : List Nat) {F : Hp} {ρ : Store}, SRel S B F H σ ρ → ∃ F', Ex F F' ∧ SRel S B F' H σ (is.foldl (fun t i => Vi.freeze i t) ρ)
  | [], F, ρ, r => ⟨F, .refl _, r⟩
  | i :: is, F, ρ, r => by
    obtain ⟨F1, e1, r1⟩ := r.freeze i
    obtain ⟨F2, e2, r2⟩ := SRel.freezes is r1
    exact ⟨F2, e1.trans e2, r2⟩
theorem s_frz (is : List Nat) {s : SS_} (h : PS X st (tS S B W s)) : PS X st (tS S B W (frzS is s)) := ps_imp h fun D σ H ⟨F, ρ, rel, q⟩ => by
  obtain ⟨F', e, r⟩ := rel.freezes is
  exact ⟨F', _, r, q.grow e⟩
theorem ss_frz (is : List Nat) {s : SS_} (h : PSs X sts (tS S B W s)) : PSs X sts (tS S B W (frzS is s)) := pss_imp h fun D σ H ⟨F, ρ, rel, q⟩ => by
  obtain ⟨F', e, r⟩ := rel.freezes is
  exact ⟨F', _, r, q.grow e⟩
end
end Vi

/-! Vi7: one's own lists and dicts change; loops. -/
namespace Vi
open PySem PySem.Spec PyProof.Rows L2
section
variable {X : Cx} {S : Sg} {B : Bs} {W : WX} {e a b c tg : Expr} {es : List Expr} {pos apos : Pos} {st : Stmt} {sts rest : List Stmt} {x : Str} {p : Pos}
/-- x.append(e) -/
def appS (i : Nat) (f : DE) : SS_ := fun ρ => match ρ[i]? with
  | some (.ol xs) => (f ρ).then ρ fun d => if small (xs.length + 1) = true then .nx (ρ.set i (.ol (xs ++ [d]))) else .bad
  | _ => .bad
theorem s_app (i : Nat) {f : DE} (ha : PE X e (sE S B W f)) (hN : X.N[i]? = some x := by rfl) (hv : Vis X.env.scope x := by first | exact Or.inl rfl | exact Or.inr (Or.inl rfl) | exact Or.inr (Or.inr rfl)) (hd : (x == ("__debug__" : Str)) = false := by decide) (hcd : (x == ("__classdict__" : Str)) = false := by decide)
    (hs0 : starEach (e :: []) X.env = (false, eval e X.env) :: starEach [] X.env := by rfl) (hbase : attributeBase (.Name x p) "append" X.env (eval (.Name x p) X.env) = eval (.Name x p) X.env := by rfl)
    (hfew : ((backTo pos (starEach (e :: []) X.env)).all (fun x => !x.1) && (backToKw pos (keywordEach [] X.env)).all (fun x => x.1.isSome)
      && decide ((e :: []).length + ([] : List Keyword).length + (if ([] : List Keyword).isEmpty then 0 else 1) < 30)) = true := by rfl) (hline : (apos.endLine == pos.line) = true := by rfl) (hpl : (backTo pos (starEach [] X.env)).any (·.1) = false := by rfl)
    {p2 : Pos} (hs : swapsWith (.Call (.Attribute (.Name x p) "append" apos) [e] [] pos) none p2.line X.env = pure false := by rfl) : PS X (.Expr (.Call (.Attribute (.Name x p) "append" apos) [e] [] pos) p2) (tS S B W (appS i f)) := ps_imp (ps_expr (pe_bm PySem.F.plainAttrs_list PySem.F.slot_list_append PySem.F.type_list_append mt_append (pv i hN hv hd hcd) (pa_cons ha pa_nil hs0) hbase hfew hline hs0 hpl) hs) fun D σ H ⟨F, ρ, rel, q⟩ => by
  unfold appS at q
  split at q
  · rename_i xs hi
    obtain ⟨l, vs, h1, h2, h3, _⟩ := rel.ol_inv hi
    refine ⟨_, sl_get h1, .inl ⟨rfl, vs, SqL.of h2⟩, ?_⟩
    refine bindS rel q fun d v F1 H1 _ g1 r1 q1 => ?_
    split at q1
    · rename_i c
      obtain ⟨l', vs', h1', h2', h3', h4', _⟩ := (rel.grow g1).ol_inv hi
      rw [h1] at h1'
      cases h1'
      refine ⟨l, vs', v, rfl, rfl, h2', ?_, ?_⟩
      · rw [← h3'.length]
        have := small_le c
        omega
      · exact q1 F1 _ σ (.refl _) (h4' _ _ (h3'.append (reps_cons r1 reps_nil)))
    · exact q1.elim
  · exact q.elim
/-- x.extend(e) -/
def extS (i : Nat) (f : DE) : SS_ := fun ρ => match ρ[i]? with
  | some (.ol xs) => (f ρ).then ρ fun d => match d with
    | .lst ys => if small (xs.length + ys.length) = true then .nx (ρ.set i (.ol (xs ++ ys))) else .bad
    | _ => .bad
  | _ => .bad
theorem s_ext (i : Nat) {f : DE} (ha : PE X e (sE S B W f)) (hN : X.N[i]? = some x := by rfl) (hv : Vis X.env.scope x := by first | exact Or.inl rfl | exact Or.inr (Or.inl rfl) | exact Or.inr (Or.inr rfl)) (hd : (x == ("__debug__" : Str)) = false := by decide) (hcd : (x == ("__classdict__" : Str)) = false := by decide)
    (hs0 : starEach (e :: []) X.env = (false, eval e X.env) :: starEach [] X.env := by rfl) (hbase : attributeBase (.Name x p) "extend" X.env (eval (.Name x p) X.env) = eval (.Name x p) X.env := by rfl)
    (hfew : ((backTo pos (starEach (e :: []) X.env)).all (fun x => !x.1) && (backToKw pos (keywordEach [] X.env)).all (fun x => x.1.isSome)
      && decide ((e :: []).length + ([] : List Keyword).length + (if ([] : List Keyword).isEmpty then 0 else 1) < 30)) = true := by rfl) (hline : (apos.endLine == pos.line) = true := by rfl) (hpl : (backTo pos (starEach [] X.env)).any (·.1) = false := by rfl)
    {p2 : Pos} (hs : swapsWith (.Call (.Attribute (.Name x p) "extend" apos) [e] [] pos) none p2.line X.env = pure false := by rfl) : PS X (.Expr (.Call (.Attribute (.Name x p) "extend" apos) [e] [] pos) p2) (tS S B W (extS i f)) := ps_imp (ps_expr (pe_bm PySem.F.plainAttrs_list PySem.F.slot_list_extend PySem.F.type_list_extend mt_extend (pv i hN hv hd hcd) (pa_cons ha pa_nil hs0) hbase hfew hline hs0 hpl) hs) fun D σ H ⟨F, ρ, rel, q⟩ => by
  unfold extS at q
  split at q
  · rename_i xs hi
    obtain ⟨l, vs, h1, h2, h3, _⟩ := rel.ol_inv hi
    refine ⟨_, sl_get h1, .inl ⟨rfl, vs, SqL.of h2⟩, ?_⟩
    refine bindS rel q fun d v F1 H1 _ g1 r1 q1 => ?_
    cases d with
    | lst ys =>
      have q1 : Post S B W F1 D (if small (xs.length + ys.length) = true then .nx (ρ.set i (.ol (xs ++ ys))) else .bad) := q1
      split at q1
      · rename_i c
        obtain ⟨l', vs', h1', h2', h3', h4', _⟩ := (rel.grow g1).ol_inv hi
        rw [h1] at h1'
        cases h1'
        obtain ⟨b, ws, rfl, h5, h6⟩ := rep_lst_inv r1
        exact ⟨l, b, vs', ws, rfl, rfl, h2', g1.fh _ _ h5, by rw [← h3'.length, ← h6.length]; exact small_le c, q1 F1 _ σ (.refl _) (h4' _ _ (h3'.append h6))⟩
      · exact q1.elim
    | _ => exact q1.elim
  · exact q.elim
/-- x.reverse(), x.clear() -/
def revS (i : Nat) : SS_ := fun ρ => match ρ[i]? with
  | some (.ol xs) => .nx (ρ.set i (.ol xs.reverse))
  | _ => .bad
theorem s_rev (i : Nat) (hN : X.N[i]? = some x := by rfl) (hv : Vis X.env.scope x := by first | exact Or.inl rfl | exact Or.inr (Or.inl rfl) | exact Or.inr (Or.inr rfl)) (hd : (x == ("__debug__" : Str)) = false := by decide) (hcd : (x == ("__classdict__" : Str)) = false := by decide)
    (hbase : attributeBase (.Name x p) "reverse" X.env (eval (.Name x p) X.env) = eval (.Name x p) X.env := by rfl) (hline : (apos.endLine == pos.line) = true := by rfl)
    {p2 : Pos} (hs : swapsWith (.Call (.Attribute (.Name x p) "reverse" apos) [] [] pos) none p2.line X.env = pure false := by rfl) : PS X (.Expr (.Call (.Attribute (.Name x p) "reverse" apos) [] [] pos) p2) (tS S B W (revS i)) := ps_imp (ps_expr (pe_bm0 PySem.F.plainAttrs_list PySem.F.slot_list_reverse PySem.F.type_list_reverse mt_reverse (pv i hN hv hd hcd) hbase hline) hs) fun D σ H ⟨F, ρ, rel, q⟩ => by
  unfold revS at q
  split at q
  · rename_i xs hi
    obtain ⟨l, vs, h1, h2, h3, h4, _⟩ := rel.ol_inv hi
    exact ⟨_, sl_get h1, .inl ⟨rfl, vs, SqL.of h2⟩, l, vs, rfl, rfl, h2, q F _ σ (.refl _) (h4 _ _ h3.rev)⟩
  · exact q.elim
def clrS (i : Nat) : SS_ := fun ρ => match ρ[i]? with
  | some (.ol _) => .nx (ρ.set i (.ol []))
  | _ => .bad
theorem s_clr (i : Nat) (hN : X.N[i]? = some x := by rfl) (hv : Vis X.env.scope x := by first | exact Or.inl rfl | exact Or.inr (Or.inl rfl) | exact Or.inr (Or.inr rfl)) (hd : (x == ("__debug__" : Str)) = false := by decide) (hcd : (x == ("__classdict__" : Str)) = false := by decide)
    (hbase : attributeBase (.Name x p) "clear" X.env (eval (.Name x p) X.env) = eval (.Name x p) X.env := by rfl) (hline : (apos.endLine == pos.line) = true := by rfl)
    {p2 : Pos} (hs : swapsWith (.Call (.Attribute (.Name x p) "clear" apos) [] [] pos) none p2.line X.env = pure false := by rfl) : PS X (.Expr (.Call (.Attribute (.Name x p) "clear" apos) [] [] pos) p2) (tS S B W (clrS i)) := ps_imp (ps_expr (pe_bm0 PySem.F.plainAttrs_list PySem.F.slot_list_clear PySem.F.type_list_clear mt_clear (pv i hN hv hd hcd) hbase hline) hs) fun D σ H ⟨F, ρ, rel, q⟩ => by
  unfold clrS at q
  split at q
  · rename_i xs hi
    obtain ⟨l, vs, h1, h2, h3, h4, _⟩ := rel.ol_inv hi
    exact ⟨_, sl_get h1, .inl ⟨rfl, vs, SqL.of h2⟩, l, vs, rfl, rfl, h2, q F _ σ (.refl _) (h4 _ _ reps_nil)⟩
  · exact q.elim
/-- x[e] = v -/
def setIxS (i : Nat) (g f : DE) : SS_ := fun ρ => (f ρ).then ρ fun d => match ρ[i]? with
  | some (.ol xs) => (g ρ).then ρ fun k => match k with
    | .int k => match ixN xs.length k with
      | some j => .nx (ρ.set i (.ol (xs.set j d)))
      | none => .bad
    | _ => .bad
  | _ => .bad
theorem s_setIx (i : Nat) {f g : DE} (hk : PE X a (sE S B W g)) (hf : PE X e (sE S B W f)) (hN : X.N[i]? = some x := by rfl) (hv : Vis X.env.scope x := by first | exact Or.inl rfl | exact Or.inr (Or.inl rfl) | exact Or.inr (Or.inr rfl)) (hd : (x == ("__debug__" : Str)) = false := by decide) (hcd : (x == ("__classdict__" : Str)) = false := by decide)
    {p2 : Pos} (hs : swapsWithSole [.Subscript (.Name x p) a pos] e p2.line X.env = pure false := by rfl) (hw : swappedStores [.Subscript (.Name x p) a pos] e X.env = pure none := by rfl) (h1 : (assignEach [.Subscript (.Name x p) a pos] X.env).map (·.2) = [assign (.Subscript (.Name x p) a pos) X.env] := by rfl)
    (has : ∀ v, assign (.Subscript (.Name x p) a pos) X.env v = (do
      let ov ← holding [v] (eval (.Name x p) X.env)
      let iv ← holding [v, ov] (eval a X.env)
      standAt pos
      holding [v, ov, iv] (setItem ov iv v)
      release [v, ov, iv] []) := by intro _; rfl) : PS X (.Assign [.Subscript (.Name x p) a pos] e p2) (tS S B W (setIxS i g f)) := ps_imp (ps_asg hf (pg_sub (pv i hN hv hd hcd) hk set_list has) hs hw h1) fun D σ H ⟨F, ρ, rel, q⟩ => by
  refine bindS rel q fun d v F1 H1 _ g1 r1 q1 => ?_
  split at q1
  · rename_i xs hi
    obtain ⟨l, vs, h1, h2, h3, _⟩ := (rel.grow g1).ol_inv hi
    refine ⟨_, sl_get h1, ?_⟩
    refine bindS (rel.grow g1) q1 fun k w F2 H2 _ g2 r2 q2 => ?_
    cases k with
    | int k =>
      have q2 : Post S B W F2 D (match ixN xs.length k with
        | some j => .nx (ρ.set i (.ol (xs.set j d)))
        | none => .bad) := q2
      cases hj : ixN xs.length k with
      | none => rw [hj] at q2; exact q2.elim
      | some j =>
        rw [hj] at q2
        obtain ⟨l', vs', h1', h2', h3', h4', _⟩ := ((rel.grow g1).grow g2).ol_inv hi
        rw [h1] at h1'
        cases h1'
        exact ⟨l, vs', k, j, rfl, rep_int_inv r2, h2', by rw [← h3'.length]; exact hj, q2 F2 _ σ (.refl _) (h4' _ _ (h3'.set j (Rep.mono g2.f r1)))⟩
    | _ => exact q2.elim
  · exact q1.elim
/-- x += e (ints) -/
def augS (i : Nat) (m : Int → Int → Int) (f : DE) : SS_ := fun ρ => match ρ[i]? with
  | some (.sh (.int n)) => (f ρ).then ρ fun d => match d with
    | .int k => .nx (ρ.set i (.sh (.int (m n k))))
    | _ => .bad
  | _ => .bad
theorem s_aug (i : Nat) {op : Operator} {m : Int → Int → Int} {f : DE} (hN : X.N.Nodup) (ho : PIp X op (ipI m)) (hf : PE X e (sE S B W f)) (hi : X.N[i]? = some x := by rfl) (hx : Loc X.env.scope x := by first | exact Or.inl rfl | exact Or.inr rfl)
    (hfn : X.fn x = true ∨ X.env.scope.names.lookup x = some .local := by first | exact .inl rfl | exact .inr rfl) : PS X (.AugAssign (.Name x p) op e pos) (tS S B W (augS i m f)) := ps_imp (ps_aug hN hi hx hf ho hfn) fun D σ H ⟨F, ρ, rel, q⟩ => by
  unfold augS at q
  split at q
  · rename_i n hi
    obtain ⟨v, h1, h2⟩ := rel.sh_inv hi
    rw [rep_int_inv h2] at h1
    refine ⟨_, sl_get h1, ?_⟩
    refine bindS rel q fun d v F1 H1 _ g1 r1 q1 => ?_
    cases d with
    | int k => exact ⟨n, k, rfl, rep_int_inv r1, q1 F1 H1 _ (.refl _) ((rel.grow g1).setSh rep_int)⟩
    | _ => exact q1.elim
  · exact q.elim
/-- x = {} -/
theorem s_ownDct (i : Nat) {p2 : Pos} (hN : X.N.Nodup) (hi : X.N[i]? = some x := by rfl) (hx : Loc X.env.scope x := by first | exact Or.inl rfl | exact Or.inr rfl) (hs : swapsWith (.Dict [] [] p2) (some (.Name x p)) pos.line X.env = pure false := by rfl)
    (hf : X.fn x = true ∨ X.env.scope.names.lookup x = some .local := by first | exact .inl rfl | exact .inr rfl) : PS X (.Assign [.Name x p] (.Dict [] [] p2) pos) (tS S B W (ownDctS i)) := ps_imp (ps_set hN hi hx pe_dnewK hs hf) fun D σ H ⟨F, ρ, rel, q⟩ => by
  intro d hd
  exact q F _ _ (.refl _) (rel.newOd (kvs := []) (xs := []) hd reps_nil)
/-- the pairs behind d[k] = v -/
def putD (ks : List Key) (xs : List D) (k : Key) (d : D) : List Key × List D := if (ks.any fun j => decide (j = k)) = true then (ks, List.zipWith (fun j x => if j = k then d else x) ks xs) else (ks ++ [k], xs ++ [d])
theorem put_map {F : Hp} {k : Key} {d : D} {v : V} (r : Rep S F d v) : ∀ {kvs : List (Key × V)} {xs : List D}, Reps S F xs (kvs.map (·.2)) →
    Reps S F (List.zipWith (fun j x => if j = k then d else x) (kvs.map (·.1)) xs) ((kvs.map fun kv => if kv.1 = k then (kv.1, v) else kv).map (·.2))
  | [], xs, h => by
    have := reps_nil_inv (F := F) (S := S) (vs := [])  (by cases xs with
      | nil => exact reps_nil
      | cons x xs => obtain ⟨_, _, z, _⟩ := reps_cons_inv h; cases z)
    simp
    exact reps_nil
  | (j, w) :: kvs, xs, h => by
    cases xs with
    | nil => have := reps_nil_inv h; cases this
    | cons x xs =>
      obtain ⟨v', r', e, h1, h2⟩ := reps_cons_inv h
      simp only [List.map_cons] at e
      injection e with e1 e2
      subst e1 e2
      have ih := put_map (k := k) r h2
      simp only [List.map_cons, List.zipWith_cons_cons]
      by_cases c : j = k
      · rw [if_pos c, if_pos c]
        exact reps_cons r ih
      · rw [if_neg c, if_neg c]
        exact reps_cons h1 ih
theorem put_keys {k : Key} {v : V} : ∀ kvs : List (Key × V), (kvs.map fun kv => if kv.1 = k then (kv.1, v) else kv).map (·.1) = kvs.map (·.1)
  | [] => rfl
  | (j, w) :: kvs => by
    simp only [List.map_cons]
    rw [put_keys kvs]
    by_cases c : j = k
    · rw [if_pos c]
    · rw [if_neg c]
theorem put_rep {F : Hp} {kvs : List (Key × V)} {xs : List D} {k : Key} {d : D} {v : V} (h : Reps S F xs (kvs.map (·.2))) (r : Rep S F d v) : (putK kvs k v).map (·.1) = (putD (kvs.map (·.1)) xs k d).1 ∧ Reps S F (putD (kvs.map (·.1)) xs k d).2 ((putK kvs k v).map (·.2)) := by
  have e : (kvs.any fun kv => decide (kv.1 = k)) = (kvs.map (·.1)).any fun j => decide (j = k) := by
    rw [List.any_map]
    rfl
  unfold putK putD
  rw [e]
  split
  · exact ⟨put_keys kvs, put_map r h⟩
  · refine ⟨by simp, ?_⟩
    rw [List.map_append]
    exact h.append (reps_cons r reps_nil)
/-- x[e] = v, x a dict of its own -/
def putS (i : Nat) (g f : DE) : SS_ := fun ρ => (f ρ).then ρ fun d => match ρ[i]? with
  | some (.od ks xs) => (g ρ).then ρ fun k => match keyOf k with
    | some k => if small (ks.length + 1) = true then .nx (ρ.set i (.od (putD ks xs k d).1 (putD ks xs k d).2)) else .bad
    | none => .bad
  | _ => .bad
theorem s_put (i : Nat) {f g : DE} (hu : X.A.units + 1 < cLine) (hk : PE X a (sE S B W g)) (hf : PE X e (sE S B W f)) (hN : X.N[i]? = some x := by rfl) (hv : Vis X.env.scope x := by first | exact Or.inl rfl | exact Or.inr (Or.inl rfl) | exact Or.inr (Or.inr rfl)) (hd : (x == ("__debug__" : Str)) = false := by decide) (hcd : (x == ("__classdict__" : Str)) = false := by decide)
    {p2 : Pos} (hs : swapsWith e (some (.Subscript (.Name x p) a pos)) p2.line X.env = pure false := by rfl) : PS X (.Assign [.Subscript (.Name x p) a pos] e p2) (tS S B W (putS i g f)) := ps_imp (ps_dput hu (pv i hN hv hd hcd) hk hf hs) fun D σ H ⟨F, ρ, rel, q⟩ => by
  refine bindS rel q fun d v F1 H1 _ g1 r1 q1 => ?_
  split at q1
  · rename_i ks xs hi
    obtain ⟨l, kvs, h1, h2, h3, h4, _⟩ := (rel.grow g1).od_inv hi
    refine ⟨_, sl_get h1, ?_⟩
    refine bindS (rel.grow g1) q1 fun k w F2 H2 _ g2 r2 q2 => ?_
    cases hk : keyOf k with
    | none => rw [hk] at q2; exact q2.elim
    | some k' =>
      rw [hk] at q2
      have q2 : Post S B W F2 D (if small (ks.length + 1) = true then .nx (ρ.set i (.od (putD ks xs k' d).1 (putD ks xs k' d).2)) else .bad) := q2
      split at q2
      · rename_i cz
        obtain ⟨l', kvs', h1', h2', h3', h4', h5', _⟩ := ((rel.grow g1).grow g2).od_inv hi
        rw [h1] at h1'
        cases h1'
        subst h3'
        obtain ⟨e1, e2⟩ := put_rep (k := k') h4' (Rep.mono g2.f r1)
        have hl : kvs'.length < sizeLine := by
          rw [List.length_map] at cz
          have := small_le cz
          omega
        refine ⟨l, _, rfl, by rw [keyOf_v hk r2]; exact DPut.k h2' hl, q2 F2 _ σ (.refl _) ?_⟩
        rw [← e1]
        exact h5' _ _ e2
      · exact q2.elim
  · exact q1.elim

/-! ### loops -/
def forL (t : Tg) (body : SS_) : List D → Store → Out
  | [], ρ => .nx ρ
  | d :: ds, ρ => match t.bind d ρ with
    | none => .bad
    | some ρ1 => match body ρ1 with
      | .nx ρ' => forL t body ds ρ'
      | .ct ρ' => forL t body ds ρ'
      | .bk ρ' => .nx ρ'
      | o => o
def forS (it : DA) (t : Tg) (body : SS_) : SS_ := fun ρ => (it ρ).then ρ fun ds => forL t body ds ρ
theorem s_for {it : DA} {t : Tg} {s : SS_} {body : List Stmt} (hp : PassesOwn (model X.prog X.w) X.A X.env X.xe) (hc : X.calm = true) (hi : PI X tg e (jI S B W false it)) (hg : PTg X S B tg t) (hb : PSs X body (tS S B W s)) (hs : ∀ x, foldedSetIterable e X.env x = pure x := by intro _; rfl) :
    PS X (.For tg e body [] pos) (tS S B W (forS it t s)) := by
  obtain ⟨g, g1, g2⟩ := hg.ex
  refine ps_imp (ps_for hp hc hi g1 hb hs) fun D σ H ⟨F, ρ, rel, q⟩ => ?_
  refine bindS rel q fun ds J F1 H1 _ gr it1 q1 => ?_
  refine ⟨fun i m σ H => m = ds.length - i ∧ i ≤ ds.length ∧ ∃ F ρ, SRel S B F H σ ρ ∧ Ex F1 F ∧ Post S B W F D (forL t s (ds.drop i) ρ), ⟨_, rfl, Nat.zero_le _, F1, ρ, rel.grow gr, .refl _, q1⟩, ?_⟩
  rintro i m σ H ⟨rfl, hi, F, ρ, rel, e, q⟩
  obtain ⟨go, stop⟩ := it1 F H (e.trans rel.fh) e rel.fh i
  by_cases hlt : i < ds.length
  · obtain ⟨hgo, hyld⟩ := go ds[i] (by simp [hlt])
    have hd : ds.drop i = ds[i] :: ds.drop (i + 1) := List.drop_eq_getElem_cons hlt
    rw [hd] at q
    refine .inr ⟨hgo, fun σ' H' => ∃ F ρ, SRel S B F H' σ' ρ ∧ Ex F1 F ∧ Post S B W F D (forL t s (ds.drop (i + 1)) ρ), fun σ' H' w => ⟨ds.length - (i + 1), by omega, rfl, hlt, w⟩, fun x H' y => ?_⟩
    obtain ⟨F2, gr2, r2⟩ := hyld x H' y
    unfold forL at q
    cases hb : t.bind ds[i] ρ with
    | none => rw [hb] at q; exact q.elim
    | some ρ1 =>
      rw [hb] at q
      refine g2 F2 H' σ ρ ρ1 x ds[i] _ (rel.grow gr2) r2 hb fun σ2 rel2 _ => ⟨F2, ρ1, rel2, ?_⟩
      have q : Post S B W F D (match s ρ1 with
        | .nx ρ' => forL t s (ds.drop (i + 1)) ρ'
        | .ct ρ' => forL t s (ds.drop (i + 1)) ρ'
        | .bk ρ' => .nx ρ'
        | o => o) := q
      have q := q.grow gr2.f
      have ee := e.trans gr2.f
      cases hs : s ρ1 with
      | nx ρ' => rw [hs] at q; exact fun F' H' σ' e' r => ⟨F', ρ', r, ee.trans e', q.grow e'⟩
      | ct ρ' => rw [hs] at q; exact fun F' H' σ' e' r => ⟨F', ρ', r, ee.trans e', q.grow e'⟩
      | bk ρ' => rw [hs] at q; exact fun F' H' σ' e' r => q F' H' σ' e' r
      | rt d => rw [hs] at q; exact q
      | rn d => rw [hs] at q; exact q
      | er c ρ' => rw [hs] at q; exact q
      | bad => rw [hs] at q; exact q
  · have ei : i = ds.length := by omega
    refine .inl ⟨stop ei, ?_⟩
    rw [ei, List.drop_length] at q
    exact q F H σ (.refl _) rel
def whileL (c : DB) (body : SS_) : Nat → Store → Out
  | 0, _ => .bad
  | n + 1, ρ => (c ρ).then ρ fun b => match b with
    | true => match body ρ with
      | .nx ρ' => whileL c body n ρ'
      | .ct ρ' => whileL c body n ρ'
      | .bk ρ' => .nx ρ'
      | o => o
    | false => .nx ρ
theorem s_while {f : DB} {s : SS_} {body : List Stmt} (n : Nat) (hp : PassesOwn (model X.prog X.w) X.A X.env X.xe) (hc : PT X c (sT S B W f)) (hb : PSs X body (tS S B W s)) : PS X (.While c body [] pos) (tS S B W (whileL f s n)) := by
  refine ps_imp (ps_while hp hc hb) fun D σ H ⟨F, ρ, rel, q⟩ => ?_
  refine ⟨fun m σ H => ∃ F ρ, SRel S B F H σ ρ ∧ Post S B W F D (whileL f s m ρ), ⟨n, F, ρ, rel, q⟩, ?_⟩
  rintro m σ H ⟨F, ρ, rel, q⟩
  cases m with
  | zero => exact q.elim
  | succ m =>
    refine bindS rel q fun b v F1 H1 _ gr r q1 => ?_
    cases r
    cases b with
    | false => rw [if_neg Bool.false_ne_true]; exact q1 F1 H1 σ (.refl _) (rel.grow gr)
    | true =>
      rw [if_pos rfl]
      refine ⟨fun σ' H' => ∃ F ρ, SRel S B F H' σ' ρ ∧ Post S B W F D (whileL f s m ρ), fun σ' H' w => ⟨m, Nat.lt_succ_self _, w⟩, F1, ρ, rel.grow gr, ?_⟩
      have q1 : Post S B W F1 D (match s ρ with
        | .nx ρ' => whileL f s m ρ'
        | .ct ρ' => whileL f s m ρ'
        | .bk ρ' => .nx ρ'
        | o => o) := q1
      cases hs : s ρ with
      | nx ρ' => rw [hs] at q1; exact fun F' H' σ' e' r => ⟨F', ρ', r, q1.grow e'⟩
      | ct ρ' => rw [hs] at q1; exact fun F' H' σ' e' r => ⟨F', ρ', r, q1.grow e'⟩
      | bk ρ' => rw [hs] at q1; exact fun F' H' σ' e' r => q1 F' H' σ' e' r
      | rt d => rw [hs] at q1; exact q1
      | rn d => rw [hs] at q1; exact q1
      | er c ρ' => rw [hs] at q1; exact q1
      | bad => rw [hs] at q1; exact q1
end
end Vi

/-! Vi8: defs, calls, objects, errors. -/
namespace Vi
open PySem PySem.Spec PyProof.Rows L2
/-! ### what a def promises -/
def PostF (S : Sg) (G H : Hp) (Q : VK) (E : XK) : R D → Prop
  | .ok d => ∀ v G' H', Gr G H G' H' → Rep S G' d v → Q v H'
  | .er c => ∀ G' H', Gr G H G' H' → E (cl S c) none H'
  | .bad => False
def spF (S : Sg) (n : Nat) (sem : List D → R D) : Sp := fun vs H Q E => vs.length = n ∧ ∃ G ds, Ex G H ∧ Reps S G ds vs ∧ PostF S G H Q E (sem ds)
/-- the def that the module's name x stands for keeps sem, by level k -/
structure FnE (P : Program) (w : World) (K : PySem.W.Frag) (mg : Str → Option Value) (base : Heap) (S : Sg) (k : Nat) (x : Str) (n : Nat) (sem : List D → R D) : Prop where
  ex : ∃ f fd ps, mg x = some (.ref f) ∧ PySem.W.keepIn K (.ref f) = true ∧ FnOk P w K mg base (L2.CX P w) k f fd ps (spF S n sem) ∧ Binds K fd ps []
theorem FnE.mono {P : Program} {w : World} {K : PySem.W.Frag} {mg : Str → Option Value} {base : Heap} {S : Sg} {j k : Nat} {x : Str} {n : Nat} {sem : List D → R D} (h : FnE P w K mg base S j x n sem) (l : j ≤ k) : FnE P w K mg base S k x n sem := by
  obtain ⟨f, fd, ps, h1, h2, h3, h4⟩ := h.ex
  exact ⟨f, fd, ps, h1, h2, h3.mono l, h4⟩
/-- a weaker word: where sem' speaks, sem says the same -/
def Le (s' s : List D → R D) : Prop := ∀ ds, s' ds = .bad ∨ s' ds = s ds
theorem spF_le {S : Sg} {n : Nat} {s s' : List D → R D} (l : Le s' s) : ∀ vs H Q E, spF S n s' vs H Q E → spF S n s vs H Q E := by
  rintro vs H Q E ⟨h1, G, ds, h2, h3, h4⟩
  refine ⟨h1, G, ds, h2, h3, ?_⟩
  rcases l ds with q | q
  · rw [q] at h4; exact h4.elim
  · rw [← q]; exact h4
theorem FnE.le {P : Program} {w : World} {K : PySem.W.Frag} {mg : Str → Option Value} {base : Heap} {S : Sg} {k : Nat} {x : Str} {n : Nat} {s s' : List D → R D} (h : FnE P w K mg base S k x n s) (l : Le s' s) : FnE P w K mg base S k x n s' := by
  obtain ⟨f, fd, ps, h1, h2, h3, h4⟩ := h.ex
  exact ⟨f, fd, ps, h1, h2, h3.imp (spF_le l), h4⟩
section
variable {X : Cx} {S : Sg} {B : Bs} {W : WX} {e o a b c tg : Expr} {es : List Expr} {pos apos p : Pos} {x m : Str} {k n : Nat} {sem : List D → R D}
def callD (sem : List D → R D) (g : DA) : DE := fun ρ => (g ρ).bind sem
/-- .. its arguments looked at alone; what it tells lies in no heap -/
def lookD (sem : List D → R D) (g : DA) : DE := fun ρ => (g ρ).bind fun ds => (sem ds).bind fun d => if d.flat = true then .ok d else .bad
theorem p_call {g : DA} (G : FnE X.prog X.w X.K X.mg X.base S k x n sem) (hr : Room k X.A) (tk : Takes X W) (ha : PA X (e :: es) (sA S B W g)) (hg : Gl X x := by rfl) (hdb : (x == ("__debug__" : Str)) = false := by decide) (he : starEach (e :: es) X.env = (false, eval e X.env) :: starEach es X.env := by rfl)
    (hpl : (backTo pos (starEach es X.env)).any (·.1) = false := by rfl) : PE X (.Call (.Name x p) (e :: es) [] pos) (sE S B W (callD (fun ds => if ds.length = n then sem ds else .bad) g)) := by
  obtain ⟨f, fd, ps, h1, h2, h3, h4⟩ := G.ex
  refine pe_imp (pe_callS h3 hr hg h1 h2 h4 (fun σ => passAt tk σ) ha hdb he hpl) fun σ H Q ⟨F, ρ, rel, q⟩ => ?_
  refine bindG rel q fun ds vs F1 H1 _ g1 r1 q1 => ?_
  split at q1
  · rename_i hn
    refine ⟨by rw [← Reps.length r1]; exact hn, F1, ds, g1.fh, r1, ?_⟩
    cases hs : sem ds with
    | ok d => rw [hs] at q1; exact q1
    | er c => rw [hs] at q1; exact q1
    | bad => rw [hs] at q1; exact q1
  · exact q1.elim
theorem p_look {g : DA} (G : FnE X.prog X.w X.K X.mg X.base S k x n sem) (hr : Room k X.A) (tk : Takes X W) (ha : PA X (e :: es) (bA S B W g)) (hg : Gl X x := by rfl) (hdb : (x == ("__debug__" : Str)) = false := by decide) (he : starEach (e :: es) X.env = (false, eval e X.env) :: starEach es X.env := by rfl)
    (hpl : (backTo pos (starEach es X.env)).any (·.1) = false := by rfl) : PE X (.Call (.Name x p) (e :: es) [] pos) (sE S B W (lookD (fun ds => if ds.length = n then sem ds else .bad) g)) := by
  obtain ⟨f, fd, ps, h1, h2, h3, h4⟩ := G.ex
  refine pe_imp (pe_callS h3 hr hg h1 h2 h4 (fun σ => passAt tk σ) ha hdb he hpl) fun σ H Q ⟨F, ρ, rel, q⟩ => ?_
  refine bindG rel q fun ds vs F1 H1 _ g1 r1 q1 => ?_
  by_cases hn : ds.length = n
  · have q1 : PostG S W (repV S) F1 H1 σ Q ((if ds.length = n then sem ds else .bad).bind fun d => if d.flat = true then .ok d else .bad) := q1
    rw [if_pos hn] at q1
    refine ⟨by rw [← Reps.length r1]; exact hn, H1, ds, .refl _, r1, ?_⟩
    have gg : ∀ {G' H' : Hp}, Gr H1 H1 G' H' → Gr F1 H1 F1 H' := fun g => ⟨.refl _, g.h, g1.fh.trans g.h, fun _ _ z => z⟩
    cases hs : sem ds with
    | ok d =>
      rw [hs] at q1
      have q1 : PostG S W (repV S) F1 H1 σ Q (if d.flat = true then .ok d else .bad) := q1
      split at q1
      · rename_i hf
        exact fun v G' H' g r => q1 v F1 H' (gg g) (r.flat hf)
      · exact q1.elim
    | er c =>
      rw [hs] at q1
      exact fun G' H' g => q1 F1 H' (gg g)
    | bad => rw [hs] at q1; exact q1
  · have q1 : PostG S W (repV S) F1 H1 σ Q ((if ds.length = n then sem ds else .bad).bind fun d => if d.flat = true then .ok d else .bad) := q1
    rw [if_neg hn] at q1
    exact q1.elim

/-! ### a def of the text -/
def entry (N n : Nat) (ds : List D) : Store := ds.map .sh ++ List.replicate (N - n) .no
def runF (N n : Nat) (s : SS_) : List D → R D := fun ds => if ds.length = n then (match s (entry N n ds) with
  | .rt d => .ok d
  | .nx _ => .ok .non
  | .er c _ => .er c
  | _ => .bad) else .bad
theorem start_rel {N ps : List Str} {vs : List V} {ds : List D} {G H : Hp} (hG : Ex G H) (r : Reps S G ds vs) (hl : vs.length = ps.length) : SRel S { F0 := G, H0 := H } G H (start N vs) (entry N.length ps.length ds) := by
  have el : ds.length = ps.length := by rw [r.length]; exact hl
  refine ⟨hG, .refl _, fun _ _ h _ => h, fun _ h => h, fun _ _ h => h, (fun _ h => nomatch h), ?_, fun _ _ => False, fun i s e => ?_, fun _ _ _ (z : False) => z.elim, fun _ _ (z : False) => z.elim⟩
  · unfold L2.start entry
    simp only [List.length_append, List.length_map, List.length_replicate]
    rw [hl, el]
  · unfold entry at e
    by_cases hi : i < ds.length
    · rw [List.getElem?_append_left (by simpa using hi), List.getElem?_map] at e
      cases hd : ds[i]? with
      | none => rw [hd] at e; cases e
      | some d =>
        rw [hd] at e
        cases e
        obtain ⟨v, h1, h2⟩ := r.get hd
        refine ⟨⟨v, ?_, h2⟩, fun _ z => z⟩
        unfold sl L2.start
        have hv : i < vs.length := (List.getElem?_eq_some_iff.mp h1).1
        rw [List.getElem?_append_left (by simpa using hv), List.getElem?_map, h1]
        rfl
    · rw [List.getElem?_append_right (by simpa using hi)] at e
      rw [List.getElem?_replicate] at e
      split at e
      · cases e
        exact fun _ z => z
      · cases e
theorem Gr.of_rel {G H F' H' : Hp} {σ' : SS} {ρ' : Store} (hG : Ex G H) (r : SRel S { F0 := G, H0 := H } F' H' σ' ρ') : Gr G H F' H' :=
  ⟨r.f0, fun a o e => r.h0 a o e (fun z => nomatch z), r.fh, r.fn⟩
end
/-- THE RULE for a def -/
theorem mk_fn {P : Program} {w : World} {K : PySem.W.Frag} {mg : Str → Option Value} {base : Heap} {S : Sg} {x qual name : Str} {params : Arguments} {body : List Stmt} {scope : Scope} {f : Addr} {fd : FuncData} {N ps : List Str} {k : Nat} {s : SS_}
    (F : FunD K x qual params body scope [] [] f fd) (sc : FnScope N ps scope) (hm : mg name = some (.ref f)) (b : Binds K fd ps [])
    (hb : ∀ (B : Bs) (W : WX) (cdv : Value) (A : Around) (outer : List Env) (st : Shared) (H : Hp) (E : XK), Room k (cxOf (L2.CX P w) P w K mg base N qual scope f cdv A outer st H E).A → Takes (cxOf (L2.CX P w) P w K mg base N qual scope f cdv A outer st H E) W →
      PassesOwn (model P w) (cxOf (L2.CX P w) P w K mg base N qual scope f cdv A outer st H E).A (cxOf (L2.CX P w) P w K mg base N qual scope f cdv A outer st H E).env (cxOf (L2.CX P w) P w K mg base N qual scope f cdv A outer st H E).xe →
      PSs (cxOf (L2.CX P w) P w K mg base N qual scope f cdv A outer st H E) body (tS S B W s)) : FnE P w K mg base S (k + 1) name ps.length (runF N.length ps.length s) := by
  refine ⟨f, fd, ps, hm, F.kp, ?_, b⟩
  refine F.ok sc (fun vs H Q E h => h.1) fun cdv A outer st H vs Q E hr h => ?_
  obtain ⟨hl, G, ds, hG, r, q⟩ := h
  refine ⟨_, hb { F0 := G, H0 := H } (fun cls d _ H' => E cls d H') cdv A outer st H E hr (takes_of rfl rfl rfl rfl) (passes_of rfl), G, _, start_rel hG r hl, ?_⟩
  have el : ds.length = ps.length := by rw [r.length]; exact hl
  unfold runF at q
  rw [if_pos el] at q
  cases hs : s (entry N.length ps.length ds) with
  | rt d => rw [hs] at q; exact fun v F' H' σ' ρ' _ rel r' => q v F' H' (Gr.of_rel hG rel) r'
  | nx ρ' => rw [hs] at q; exact fun F' H' σ' _ rel => q .non F' H' (Gr.of_rel hG rel) rep_non
  | er c ρ' => rw [hs] at q; exact fun F' H' σ' _ rel => q F' H' (Gr.of_rel hG rel)
  | bk ρ' => rw [hs] at q; exact q.elim
  | rn d => rw [hs] at q; exact q.elim
  | ct ρ' => rw [hs] at q; exact q.elim
  | bad => rw [hs] at q; exact q.elim

/-! ### objects -/
/-- where attributes of the classes cs stand -/
structure FldOk (S : Sg) (K : PySem.W.Frag) (c : Nat) (f : Str) (i : Nat) : Prop where
  cls : Cls K (He.ga K (S.cn c))
  no : NoAttr K (He.ga K (S.cn c)) f
  at_ : (S.fl c)[i]? = some f
  fst : f ∉ (S.fl c).take i
def fldD (cs : List Nat) (i : Nat) : D → Option D
  | .obj c xs => if c ∈ cs then xs[i]? else none
  | _ => none
theorem lookup_at : ∀ {gs : List (Str × V)} {fl : List Str} {i : Nat} {f : Str}, gs.map (·.1) = fl → fl[i]? = some f → f ∉ fl.take i → gs.lookup f = (gs[i]?).map (·.2)
  | [], fl, i, f, h, e, _ => by subst h; simp at e
  | (g, v) :: gs, fl, 0, f, h, e, _ => by
    subst h
    simp at e
    subst e
    simp [List.lookup]
  | (g, v) :: gs, fl, i + 1, f, h, e, n => by
    subst h
    simp only [List.map_cons, List.getElem?_cons_succ] at e
    simp only [List.map_cons, List.take_succ_cons, List.mem_cons, not_or] at n
    have hne : (f == g) = false := by simpa using n.1
    simp only [List.lookup, hne, List.getElem?_cons_succ]
    exact lookup_at rfl e n.2
section
variable {X : Cx} {S : Sg} {B : Bs} {W : WX} {e o a b c tg : Expr} {es : List Expr} {pos apos p : Pos} {x m f : Str} {k n : Nat} {sem : List D → R D}
theorem p_fld {cs : List Nat} {i : Nat} {g : DE} (h : ∀ c ∈ cs, FldOk S X.K c f i) (he : PE X e (sE S B W g)) (hK : S.K = X.K := by rfl) (hb : attributeBase e f X.env (eval e X.env) = eval e X.env := by rfl) : PE X (.Attribute e f pos) (sE S B W (un (fldD cs i) g)) :=
  pe_imp (pe_fld he hb) fun σ H Q ⟨F, ρ, rel, q⟩ => by
  refine bindG rel q fun d x F1 H1 _ g1 r1 q1 => ?_
  obtain ⟨z, h1, h2⟩ := endG q1
  cases d with
  | obj c xs =>
    have h1 : (if c ∈ cs then xs[i]? else none) = some z := h1
    split at h1
    · rename_i hc
      obtain ⟨a, dx, gs, rfl, h3, h4, h5⟩ := rep_obj_inv r1
      have ok := h c hc
      obtain ⟨v, h6, h7⟩ := h5.get h1
      refine ⟨a, He.ga X.K (S.cn c), dx, gs, v, rfl, by rw [← hK]; exact g1.fh _ _ h3, ok.cls, ok.no, ?_, h2 v F1 H1 (Gr.refl g1.fh) h7⟩
      rw [lookup_at h4 ok.at_ ok.fst, ← List.getElem?_map]
      exact h6
    · cases h1
  | _ => cases h1
/-- o.m(..), by the class of o -/
structure MethE (P : Program) (w : World) (K : PySem.W.Frag) (mg : Str → Option Value) (base : Heap) (S : Sg) (k : Nat) (c : Nat) (m : Str) (n : Nat) (sem : List D → R D) : Prop where
  ex : ∃ f fd ps, Cls K (He.ga K (S.cn c)) ∧ Meth K (He.ga K (S.cn c)) m f ∧ FnOk P w K mg base (L2.CX P w) k f fd ps (spF S n sem) ∧ Binds K fd ps [] ∧ m ∉ S.fl c
theorem MethE.mono {P : Program} {w : World} {K : PySem.W.Frag} {mg : Str → Option Value} {base : Heap} {j k : Nat} {c : Nat} (h : MethE P w K mg base S j c m n sem) (l : j ≤ k) : MethE P w K mg base S k c m n sem := by
  obtain ⟨f, fd, ps, h1, h2, h3, h4⟩ := h.ex
  exact ⟨f, fd, ps, h1, h2, h3.mono l, h4⟩
/-- the classes and what the method says for each -/
abbrev MTab := List (Nat × (List D → R D))
def methD (tb : MTab) (n : Nat) (f : DE) (g : DA) : DE := fun ρ => (f ρ).bind fun d => match d with
  | .obj c xs => match tb.lookup c with
    | some sem => (g ρ).bind fun ds => if ds.length + 1 = n then sem (.obj c xs :: ds) else .bad
    | none => .bad
  | _ => .bad
theorem mem_of_lookupN {tb : MTab} {c : Nat} {sem : List D → R D} (h : tb.lookup c = some sem) : (c, sem) ∈ tb := by
  induction tb with
  | nil => cases h
  | cons p r ih =>
    obtain ⟨j, s⟩ := p
    unfold List.lookup at h
    split at h
    · rename_i e
      cases h
      rw [beq_iff_eq.mp e]
      exact List.mem_cons_self
    · exact List.mem_cons_of_mem _ (ih h)
theorem lookup_none : ∀ {gs : List (Str × V)}, m ∉ gs.map (·.1) → gs.lookup m = none
  | [], _ => rfl
  | (g, v) :: gs, h => by
    simp only [List.map_cons, List.mem_cons, not_or] at h
    have hne : (m == g) = false := by simpa using h.1
    simp only [List.lookup, hne]
    exact lookup_none h.2
theorem run_fnS' {pins : List (Addr × Obj)} {σ : L2.St} {H : Hp} {s : Shared} {Q : VK} {us : List Value} {vs : List V} {CX : CXT} {k : Nat} {f : Addr} {fd : FuncData} {ps : List Str} {sp : Sp} {E : L2.St → XK} (F : FnOk X.prog X.w X.K X.mg X.base CX k f fd ps sp) (hr : Room k X.A) (hb : Binds X.K fd ps []) (hx : PassesAt CX X σ (E σ))
    (I : Inv X pins σ H s) (r : Vals vs us) (h : sp vs H Q (E σ)) : wpAny (model X.prog X.w) X.A (call (.ref f) us) (EP X pins σ Q) X.xe s := run_fnS F hr hb hx I r h
def tMethD (S : Sg) (tb : MTab) (n : Nat) (E : L2.St → XK) (to : TE) (t : TA) (K : PySem.W.Frag) (m : Str) : TE := fun σ H Q => to σ H fun x H1 => ∃ a c dx fs sem, x = .ref a ∧ H1 a = some (.ins (He.ga K (S.cn c)) dx fs) ∧ m ∉ fs.map (·.1) ∧ tb.lookup c = some sem ∧
  t σ H1 fun vs H2 => spF S n sem (x :: vs) H2 Q (E σ)
theorem pe_methD {tb : MTab} {E : L2.St → XK} {to : TE} {t : TA} {pl : Sem Bool} (M : ∀ q ∈ tb, MethE X.prog X.w X.K X.mg X.base S k q.1 m n q.2) (hr : Room k X.A) (hx : ∀ σ, PassesAt (L2.CX X.prog X.w) X σ (E σ)) (he : PE X o to) (ha : PA X (e :: es) t)
    (hst : starEach (e :: es) X.env = (false, eval e X.env) :: starEach es X.env := by rfl) (hpl : (backTo pos (starEach es X.env)).any (·.1) = false := by rfl)
    (ht : eval (.Call (.Attribute o m apos) (e :: es) [] pos) X.env = (do
      let ov ← eval o X.env
      standAt apos.atName
      let (f, first) ← holding [ov] (getMethod ov m pl)
      callWith pos f first (backTo pos (starEach (e :: es) X.env)) (backToKw pos (keywordEach [] X.env))) := by rfl) :
    PE X (.Call (.Attribute o m apos) (e :: es) [] pos) (tMethD S tb n E to t X.K m) := by
  refine ⟨fun pins s σ H Q I h => ?_⟩
  refine PySem.W.methodCall_KW (pl := pl) (thn (he.run pins s σ H _ I h) fun u s1 ⟨x, H1, I1, rx, a, c, dx, fs, sem, ex, ea, l, tl, q⟩ => ?_) ht
  subst ex
  obtain rfl : u = Value.ref a := rx
  obtain ⟨g, fd, ps, hc, hm, F, hb, _⟩ := (M _ (mem_of_lookupN tl)).ex
  refine getmeth_ok I1 ea hc hm (lookup_none l) ?_
  refine PySem.W.callWith_K (first := [.ref a]) (h₀ := X.base) I.ok.mod.kin hm.kp (thn (ha.run pos pins s1 σ H1 _ I1 q) fun us s2 ⟨vs, H2, I2, r, q2⟩ => ⟨I2.kIn, ?_⟩) hst hpl
  exact run_fnS (us := .ref a :: us) (vs := .ref a :: vs) F hr hb (hx σ) I2 (.cons rfl r) q2
theorem pe_methD0 {tb : MTab} {E : L2.St → XK} {to : TE} {pl : Sem Bool} (M : ∀ q ∈ tb, MethE X.prog X.w X.K X.mg X.base S k q.1 m n q.2) (hr : Room k X.A) (hx : ∀ σ, PassesAt (L2.CX X.prog X.w) X σ (E σ)) (he : PE X o to)
    (ht : eval (.Call (.Attribute o m apos) [] [] pos) X.env = (do
      let ov ← eval o X.env
      standAt apos.atName
      let (f, first) ← holding [ov] (getMethod ov m pl)
      callWith pos f first (backTo pos (starEach [] X.env)) (backToKw pos (keywordEach [] X.env))) := by rfl) :
    PE X (.Call (.Attribute o m apos) [] [] pos) (tMethD S tb n E to tNil X.K m) := by
  refine ⟨fun pins s σ H Q I h => ?_⟩
  refine PySem.W.methodCall_KW (pl := pl) (thn (he.run pins s σ H _ I h) fun u s1 ⟨x, H1, I1, rx, a, c, dx, fs, sem, ex, ea, l, tl, q⟩ => ?_) ht
  subst ex
  obtain rfl : u = Value.ref a := rx
  obtain ⟨g, fd, ps, hc, hm, F, hb, _⟩ := (M _ (mem_of_lookupN tl)).ex
  refine getmeth_ok I1 ea hc hm (lookup_none l) ?_
  exact PySem.W.callWith_K0 (first := [.ref a]) I1.kIn hm.kp (run_fnS (us := [.ref a]) (vs := [.ref a]) F hr hb (hx σ) I1 (.cons rfl .nil) q)
theorem meth_read {tb : MTab} {f : DE} {g : DA} {t : TA} {σ : SS} {H : Hp} {Q : VK} {F : Hp} {ρ : Store} (M : ∀ q ∈ tb, m ∉ S.fl q.1) (hK : S.K = X.K) (hg : ∀ σ H Q, sA S B W g σ H Q → t σ H Q) (rel : SRel S B F H σ ρ) (q : PostG S W (repV S) F H σ Q (methD tb n f g ρ)) : tMethD S tb n (WE W) (sE S B W f) t X.K m σ H Q := by
  refine bindG rel q fun d x F1 H1 _ g1 r1 q1 => ?_
  cases d with
  | obj c xs =>
    have q1 : PostG S W (repV S) F1 H1 σ Q (match tb.lookup c with
      | some sem => (g ρ).bind fun ds => if ds.length + 1 = n then sem (.obj c xs :: ds) else .bad
      | none => .bad) := q1
    cases ht : tb.lookup c with
    | none => rw [ht] at q1; exact q1.elim
    | some sem =>
      rw [ht] at q1
      have q1 : PostG S W (repV S) F1 H1 σ Q ((g ρ).bind fun ds => if ds.length + 1 = n then sem (.obj c xs :: ds) else .bad) := q1
      obtain ⟨a, dx, gs, rfl, h3, h4, h5⟩ := rep_obj_inv r1
      refine ⟨a, c, dx, gs, sem, rfl, by rw [← hK]; exact g1.fh _ _ h3, by rw [h4]; exact M _ (mem_of_lookupN ht), ht, hg _ _ _ ?_⟩
      refine bindG (rel.grow g1) q1 fun ds vs F2 H2 _ g2 r2 q2 => ?_
      split at q2
      · rename_i hn
        refine ⟨by rw [List.length_cons, ← Reps.length r2]; exact hn, F2, _, g2.fh, reps_cons (Rep.mono g2.f r1) r2, ?_⟩
        cases hs : sem (.obj c xs :: ds) with
        | ok d => rw [hs] at q2; exact q2
        | er c => rw [hs] at q2; exact q2
        | bad => rw [hs] at q2; exact q2
      · exact q2.elim
  | _ => exact q1.elim
theorem p_meth {tb : MTab} {f : DE} {g : DA} {pl : Sem Bool} (M : ∀ q ∈ tb, MethE X.prog X.w X.K X.mg X.base S k q.1 m n q.2) (hr : Room k X.A) (tk : Takes X W) (he : PE X o (sE S B W f)) (ha : PA X (e :: es) (sA S B W g)) (hK : S.K = X.K := by rfl)
    (hst : starEach (e :: es) X.env = (false, eval e X.env) :: starEach es X.env := by rfl) (hpl : (backTo pos (starEach es X.env)).any (·.1) = false := by rfl)
    (ht : eval (.Call (.Attribute o m apos) (e :: es) [] pos) X.env = (do
      let ov ← eval o X.env
      standAt apos.atName
      let (f, first) ← holding [ov] (getMethod ov m pl)
      callWith pos f first (backTo pos (starEach (e :: es) X.env)) (backToKw pos (keywordEach [] X.env))) := by rfl) :
    PE X (.Call (.Attribute o m apos) (e :: es) [] pos) (sE S B W (methD tb n f g)) :=
  pe_imp (pe_methD M hr (fun σ => passAt tk σ) he ha hst hpl ht) fun σ H Q ⟨F, ρ, rel, q⟩ => meth_read (fun q hq => by
    obtain ⟨_, _, _, _, _, _, _, z⟩ := (M q hq).ex
    exact z) hK (fun _ _ _ h => h) rel q
theorem p_meth0 {tb : MTab} {f : DE} {pl : Sem Bool} (M : ∀ q ∈ tb, MethE X.prog X.w X.K X.mg X.base S k q.1 m n q.2) (hr : Room k X.A) (tk : Takes X W) (he : PE X o (sE S B W f)) (hK : S.K = X.K := by rfl)
    (ht : eval (.Call (.Attribute o m apos) [] [] pos) X.env = (do
      let ov ← eval o X.env
      standAt apos.atName
      let (f, first) ← holding [ov] (getMethod ov m pl)
      callWith pos f first (backTo pos (starEach [] X.env)) (backToKw pos (keywordEach [] X.env))) := by rfl) :
    PE X (.Call (.Attribute o m apos) [] [] pos) (sE S B W (methD tb n f nilA)) :=
  pe_imp (pe_methD0 M hr (fun σ => passAt tk σ) he ht) fun σ H Q ⟨F, ρ, rel, q⟩ => meth_read (g := nilA) (fun q hq => by
    obtain ⟨_, _, _, _, _, _, _, z⟩ := (M q hq).ex
    exact z) hK (fun _ _ _ ⟨F, ρ, rel, q⟩ => q [] F _ (Gr.refl rel.fh) reps_nil) rel q
end
end Vi

/-! Vi9: objects are made; errors are raised and caught; isinstance. -/
namespace Vi
open PySem PySem.Spec PyProof.Rows L2
/-! ### __init__ -/
/-- growth, but for the object at x, which is being made -/
structure GrX (x : Addr) (G H G' H' : Hp) : Prop where
  f : Ex G G'
  h : ∀ a o, a ≠ x → H a = some o → H' a = some o
  fh : Ex G' H'
  no : ∀ a, H a ≠ none → G a = none → G' a = none
/-- what __init__ makes of the class, the fields so far and the arguments -/
abbrev ISem := Nat → List D → List D → R (List D)
def spI (S : Sg) (n : Nat) (sem : ISem) : Sp := fun vs H Q E => vs.length = n + 1 ∧ ∃ (G : Hp) (c : Nat) (fs ds : List D) (x dx : Addr) (gs : List (Str × V)) (ws : List V), vs = .ref x :: ws ∧ Ex G H ∧ G x = none ∧ H x = some (.ins (He.ga S.K (S.cn c)) dx gs) ∧ gs.map (·.1) = (S.fl c).take fs.length ∧ Reps S G fs (gs.map (·.2)) ∧ Reps S G ds ws ∧
  (match sem c fs ds with
  | .ok fs' => ∀ (G' H' : Hp) (dx' : Addr) (gs' : List (Str × V)), GrX x G H G' H' → G' x = none → H' x = some (.ins (He.ga S.K (S.cn c)) dx' gs') → gs'.map (·.1) = (S.fl c).take fs'.length → Reps S G' fs' (gs'.map (·.2)) → Q .non H'
  | .er cc => ∀ G' H', GrX x G H G' H' → E (cl S cc) none H'
  | .bad => False)
def runI (N n : Nat) (s : SS_) : ISem := fun c fs ds => if ds.length = n then (match s (.oo c fs :: entry (N - 1) n ds) with
  | .nx ρ' => match ρ'[0]? with
    | some (Slot.oo c' fs') => if c' = c then .ok fs' else .bad
    | _ => .bad
  | .er cc _ => .er cc
  | _ => .bad) else .bad
/-- .. for the class c at the address of its __init__ -/
structure InitE (P : Program) (w : World) (K : PySem.W.Frag) (mg : Str → Option Value) (base : Heap) (S : Sg) (k : Nat) (f : Addr) (n : Nat) (sem : ISem) : Prop where
  ex : ∃ fd ps, FnOk P w K mg base (L2.CX P w) k f fd ps (spI S n sem) ∧ Binds K fd ps []
theorem InitE.mono {P : Program} {w : World} {K : PySem.W.Frag} {mg : Str → Option Value} {base : Heap} {S : Sg} {j k : Nat} {f : Addr} {n : Nat} {sem : ISem} (h : InitE P w K mg base S j f n sem) (l : j ≤ k) : InitE P w K mg base S k f n sem := by
  obtain ⟨fd, ps, h1, h2⟩ := h.ex
  exact ⟨fd, ps, h1.mono l, h2⟩
theorem entry_rel {N ps : List Str} {vs : List V} {ds : List D} {G H : Hp} {S : Sg} {B : Bs} {i : Nat} {s : Slot} (r : Reps S G ds vs) (e : (entry N.length ps.length ds)[i]? = some s) : SlotRel S B G H s (sl (L2.start N vs) i) fun _ => False := by
  unfold entry at e
  by_cases hi : i < ds.length
  · rw [List.getElem?_append_left (by simpa using hi), List.getElem?_map] at e
    cases hd : ds[i]? with
    | none => rw [hd] at e; cases e
    | some d =>
      rw [hd] at e
      cases e
      obtain ⟨v, h1, h2⟩ := r.get hd
      refine ⟨⟨v, ?_, h2⟩, fun _ z => z⟩
      unfold sl L2.start
      have hv : i < vs.length := (List.getElem?_eq_some_iff.mp h1).1
      rw [List.getElem?_append_left (by simpa using hv), List.getElem?_map, h1]
      rfl
  · rw [List.getElem?_append_right (by simpa using hi)] at e
    rw [List.getElem?_replicate] at e
    split at e
    · cases e
      exact fun _ z => z
    · cases e
theorem init_rel {N ps : List Str} {ws : List V} {fs ds : List D} {G H : Hp} {S : Sg} {c : Nat} {x dx : Addr} {gs : List (Str × V)} (hG : Ex G H) (gx : G x = none) (hx : H x = some (.ins (He.ga S.K (S.cn c)) dx gs)) (hg : gs.map (·.1) = (S.fl c).take fs.length) (rf : Reps S G fs (gs.map (·.2)))
    (r : Reps S G ds ws) (hl : ws.length = ps.length) (hN : 0 < N.length) : SRel S { F0 := G, H0 := H, self := some x } G H (L2.start N (.ref x :: ws)) (.oo c fs :: entry (N.length - 1) ps.length ds) := by
  have el : ds.length = ps.length := by rw [r.length]; exact hl
  refine ⟨hG, .refl _, fun _ _ h _ => h, fun _ h => h, fun _ _ h => h, (fun a h => by cases h; show H x ≠ none; rw [hx]; exact Option.some_ne_none _), ?_, fun i a => i = 0 ∧ a = x, ?_, ?_, ?_⟩
  · unfold L2.start entry
    simp only [List.length_append, List.length_map, List.length_replicate, List.length_cons]
    rw [hl, el]
    omega
  · intro i s e
    cases i with
    | zero =>
      cases e
      exact ⟨x, dx, gs, rfl, rfl, hx, hg, rf, fun b => ⟨fun h => h.2, fun h => ⟨rfl, h⟩⟩⟩
    | succ i =>
      have e : (entry (N.length - 1) ps.length ds)[i]? = some s := e
      have h := entry_rel (N := N.tail) (ps := ps) (H := H) (B := { F0 := G, H0 := H, self := some x }) r (by rw [List.length_tail]; exact e)
      have es : sl (L2.start N (.ref x :: ws)) (i + 1) = sl (L2.start N.tail ws) i := by
        unfold sl L2.start
        rw [List.length_tail]
        simp only [List.map_cons, List.cons_append, List.getElem?_cons_succ, List.length_cons]
        congr 4
        omega
      rw [es]
      have pe : (fun a => i + 1 = 0 ∧ a = x) = fun _ => False := by
        funext a
        simp
      rw [pe]
      exact h
  · rintro i j a ⟨rfl, _⟩ ⟨rfl, _⟩
    rfl
  · rintro i a ⟨rfl, rfl⟩
    exact ⟨(by rw [hx]; exact Option.some_ne_none _), gx, Or.inr rfl⟩
theorem mk_init {P : Program} {w : World} {K : PySem.W.Frag} {mg : Str → Option Value} {base : Heap} {S : Sg} {x qual : Str} {params : Arguments} {body : List Stmt} {scope : Scope} {f : Addr} {fd : FuncData} {N ps : List Str} {sf : Str} {k : Nat} {s : SS_}
    (F : FunD K x qual params body scope [] [] f fd) (sc : FnScope N (sf :: ps) scope) (b : Binds K fd (sf :: ps) [])
    (hb : ∀ (B : Bs) (W : WX) (cdv : Value) (A : Around) (outer : List Env) (st : Shared) (H : Hp) (E : XK), Room k (cxOf (L2.CX P w) P w K mg base N qual scope f cdv A outer st H E).A → Takes (cxOf (L2.CX P w) P w K mg base N qual scope f cdv A outer st H E) W →
      PassesOwn (model P w) (cxOf (L2.CX P w) P w K mg base N qual scope f cdv A outer st H E).A (cxOf (L2.CX P w) P w K mg base N qual scope f cdv A outer st H E).env (cxOf (L2.CX P w) P w K mg base N qual scope f cdv A outer st H E).xe →
      PSs (cxOf (L2.CX P w) P w K mg base N qual scope f cdv A outer st H E) body (tS S B W s)) : InitE P w K mg base S (k + 1) f ps.length (runI N.length ps.length s) := by
  refine ⟨fd, sf :: ps, ?_, b⟩
  refine F.ok sc (fun vs H Q E h => h.1) fun cdv A outer st H vs Q E hr h => ?_
  obtain ⟨hl, G, c, fs, ds, x, dx, gs, ws, rfl, hG, gx, hx, hg, rf, r, q⟩ := h
  have hl : ws.length = ps.length := by simpa using hl
  have hN : 0 < N.length := by
    have := congrArg List.length sc.pre
    rw [List.length_take] at this
    simp at this
    omega
  refine ⟨_, hb { F0 := G, H0 := H, self := some x } (fun cls d _ H' => E cls d H') cdv A outer st H E hr (takes_of rfl rfl rfl rfl) (passes_of rfl), G, _, init_rel hG gx hx hg rf r hl hN, ?_⟩
  have el : ds.length = ps.length := by rw [r.length]; exact hl
  unfold runI at q
  rw [if_pos el] at q
  have grx : ∀ {F' H' : Hp} {σ' : SS} {ρ' : Store}, SRel S { F0 := G, H0 := H, self := some x } F' H' σ' ρ' → GrX x G H F' H' := fun rel => ⟨rel.f0, fun a o n e => rel.h0 a o e (fun z => n (by cases z; rfl)), rel.fh, rel.fn⟩
  cases hs : s (.oo c fs :: entry (N.length - 1) ps.length ds) with
  | nx ρ' =>
    rw [hs] at q
    intro F' H' σ' _ rel
    have q : (match (match ρ'[0]? with
      | some (Slot.oo c' fs') => if c' = c then R.ok fs' else .bad
      | _ => .bad : R (List D)) with
      | .ok fs' => ∀ (G' H' : Hp) (dx' : Addr) (gs' : List (Str × V)), GrX x G H G' H' → G' x = none → H' x = some (.ins (He.ga S.K (S.cn c)) dx' gs') → gs'.map (·.1) = (S.fl c).take fs'.length → Reps S G' fs' (gs'.map (·.2)) → Q .non H'
      | .er cc => ∀ G' H', GrX x G H G' H' → E (cl S cc) none H'
      | .bad => False) := q
    split at q
    · rename_i fs' e
      split at e
      · rename_i c' fs'' e0
        split at e
        · rename_i ec
          cases e
          subst ec
          obtain ⟨p, dx', gs', h1, h2, h3, h4, h5, _⟩ := rel.oo_inv e0
          cases h2
          exact q F' H' dx' gs' (grx rel) (rel.fn x (by show H x ≠ none; rw [hx]; exact Option.some_ne_none _) gx) h3 h4 h5
        · cases e
      · cases e
    · rename_i cc e
      split at e
      · split at e <;> cases e
      · cases e
    · exact q.elim
  | er cc ρ' => rw [hs] at q; exact fun F' H' σ' _ rel => q F' H' (grx rel)
  | rt d => rw [hs] at q; exact q.elim
  | bk ρ' => rw [hs] at q; exact q.elim
  | rn d => rw [hs] at q; exact q.elim
  | ct ρ' => rw [hs] at q; exact q.elim
  | bad => rw [hs] at q; exact q.elim
section
variable {X : Cx} {S : Sg} {B : Bs} {W : WX} {e o a b c tg : Expr} {es : List Expr} {pos apos p : Pos} {x m f : Str} {k n : Nat}
/-- self.f = e -/
def setFS (i : Nat) (cs : List Nat) (j : Nat) (f : DE) : SS_ := fun ρ => (f ρ).then ρ fun d => match ρ[i]? with
  | some (.oo c xs) => if xs.length = j ∧ c ∈ cs then .nx (ρ.set i (.oo c (xs ++ [d]))) else .bad
  | _ => .bad
theorem putF_new : ∀ {gs : List (Str × V)} {f : Str} {v : V}, f ∉ gs.map (·.1) → putF f v gs = gs ++ [(f, v)]
  | [], _, _, _ => rfl
  | (g, w) :: gs, f, v, h => by
    simp only [List.map_cons, List.mem_cons, not_or] at h
    unfold putF
    rw [if_neg (Ne.symm h.1), putF_new h.2]
    rfl
theorem s_fld (i : Nat) {cs : List Nat} {j : Nat} {g : DE} {sn : Str} {p2 : Pos} (h : ∀ c ∈ cs, FldOk S X.K c f j ∧ j < 900) (he : PE X e (sE S B W g)) (hK : S.K = X.K := by rfl) (hN : X.N[i]? = some sn := by rfl) (hv : Vis X.env.scope sn := by first | exact Or.inl rfl | exact Or.inr (Or.inl rfl) | exact Or.inr (Or.inr rfl)) (hd : (sn == ("__debug__" : Str)) = false := by decide) (hcd : (sn == ("__classdict__" : Str)) = false := by decide)
    (hs : swapsWith e (some (.Attribute (.Name sn p) f apos)) p2.line X.env = pure false := by rfl) : PS X (.Assign [.Attribute (.Name sn p) f apos] e p2) (tS S B W (setFS i cs j g)) := ps_imp (ps_fld (pv i hN hv hd hcd) he hs) fun D σ H ⟨F, ρ, rel, q⟩ => by
  refine bindS rel q fun d v F1 H1 _ g1 r1 q1 => ?_
  split at q1
  · rename_i c xs hi
    split at q1
    · rename_i hc
      obtain ⟨hj, hc⟩ := hc
      obtain ⟨ok, j9⟩ := h c hc
      obtain ⟨a, dx, gs, h1, h2, h3, h4, h5, h6⟩ := (rel.grow g1).oo_inv hi
      have hlen : gs.length = j := by
        have := h5.length
        rw [List.length_map] at this
        omega
      have hnf : f ∉ gs.map (·.1) := by rw [h4, hj]; exact ok.fst
      refine ⟨_, sl_get h1, a, _, dx, gs, rfl, by rw [← hK]; exact h3, ok.cls, ok.no, by omega, ?_⟩
      rw [← hK, putF_new hnf]
      refine q1 F1 _ σ (.refl _) (h6 _ _ ?_ ?_)
      · rw [List.map_append, h4, List.length_append, hj]
        show (S.fl c).take j ++ [f] = (S.fl c).take (j + 1)
        rw [List.take_add_one, ok.at_]
        rfl
      · rw [List.map_append]
        exact h5.append (reps_cons r1 reps_nil)
    · exact q1.elim
  · exact q1.elim
/-! ### C(..) -/
def mkD (c nf : Nat) (sem : ISem) (n : Nat) (g : DA) : DE := fun ρ => (g ρ).bind fun ds => if ds.length = n then (sem c [] ds).bind fun fs => if fs.length = nf then .ok (.obj c fs) else .bad else .bad
theorem run_makeS {pins : List (Addr × Obj)} {σ : L2.St} {H : Hp} {s : Shared} {Q : VK} {us : List Value} {vs : List V} {CX : CXT} {f C : Addr} {fd : FuncData} {ps : List Str} {sp : Sp} {E : L2.St → XK} (M : Mk X.K C f) (F : FnOk X.prog X.w X.K X.mg X.base CX k f fd ps sp) (hr : Room (k + 1) X.A) (hb : Binds X.K fd ps [])
    (hx : PassesAt CX X σ (E σ)) (I : Inv X pins σ H s) (r : Vals vs us)
    (h : ∀ x dx, H x = none → H dx = none → dx ≠ x → sp (.ref x :: vs) (upd (upd H dx (.own x)) x (.ins C dx [])) (fun v H2 => v = .non ∧ Q (.ref x) H2) (E σ)) :
    wpAny (model X.prog X.w) X.A (call (.ref C) us) (EP X pins σ Q) X.xe s := by
  have hq := h (s.heap.objs.size + 1) s.heap.objs.size (I.hok.fresh (Nat.le_succ _)) (I.hok.fresh (Nat.le_refl _)) (Nat.ne_of_lt (Nat.lt_succ_self _))
  have I2 := Inv.made (C := C) I
  have r2 : Vals (V.ref (s.heap.objs.size + 1) :: vs) (Value.ref (s.heap.objs.size + 1) :: us) := .cons rfl r
  have hl : (Value.ref (s.heap.objs.size + 1) :: us).length = ps.length := by
    have e := r2.length
    rw [F.len _ _ _ _ hq] at e
    exact e.symm
  have bb := hb { s with heap := (s.heap.push (PySem.W.instObj C s.heap.objs.size)) } (Value.ref (s.heap.objs.size + 1) :: us)
  refine wpAny_call (make_map (f := f) I.kIn M.makes M.init (beq_iff_eq.mp M.fn) (codeAny_mono (F.run _ X.stack _ _ ⟨Value.ref (s.heap.objs.size + 1) :: us, []⟩ (Value.ref (s.heap.objs.size + 1) :: us) _ _ (E σ) (hr.make C us [])
    (I2.env0.make C us []) (by
      have z := hb _ (Value.ref (s.heap.objs.size + 1) :: us) I2.kIn (by rw [List.append_nil]; exact hl)
      rw [List.append_nil] at z
      exact z) r2 hq) fun r s' hq' => ?_))
  cases r with
  | error e => exact hx pins _ _ e s' I2 hq'
  | ok fl =>
    cases fl with
    | ret u =>
      obtain ⟨v, H', I3, rv, ev, q3⟩ := I2.after hq'
      subst ev
      exact ⟨rv, ⟨V.ref (s.heap.objs.size + 1), H', I3, rfl, q3⟩⟩
    | next => exact False.elim hq'
    | brk => exact False.elim hq'
    | cont => exact False.elim hq'
def tMakeS (C : Addr) (sp : Sp) (E : L2.St → XK) (t : TA) : TE := fun σ H Q => t σ H fun vs H1 => ∀ x dx, H1 x = none → H1 dx = none → dx ≠ x →
  sp (.ref x :: vs) (upd (upd H1 dx (.own x)) x (.ins C dx [])) (fun v H2 => v = .non ∧ Q (.ref x) H2) (E σ)
theorem pe_makeS {CX : CXT} {f C : Addr} {fd : FuncData} {ps : List Str} {sp : Sp} {E : L2.St → XK} {t : TA} (M : Mk X.K C f) (F : FnOk X.prog X.w X.K X.mg X.base CX k f fd ps sp) (hr : Room (k + 1) X.A) (hg : Gl X x) (hm : X.mg x = some (.ref C)) (hb : Binds X.K fd ps []) (hx : ∀ σ, PassesAt CX X σ (E σ))
    (ha : PA X (e :: es) t) (hdb : (x == ("__debug__" : Str)) = false := by decide) (he : starEach (e :: es) X.env = (false, eval e X.env) :: starEach es X.env := by rfl) (hpl : (backTo pos (starEach es X.env)).any (·.1) = false := by rfl) :
    PE X (.Call (.Name x p) (e :: es) [] pos) (tMakeS C sp E t) := by
  refine ⟨fun pins s σ H Q I h => ?_⟩
  refine wpAny_Call_Name_kw (ld_glob I hg hm ?_ hdb)
  refine PySem.W.callWith_K (h₀ := X.base) I.ok.mod.kin M.kp (thn (ha.run pos pins s σ H _ I h) fun us s1 ⟨vs, H1, I1, r, q⟩ => ⟨I1.kIn, ?_⟩) he hpl
  exact run_makeS M F hr hb (hx σ) I1 r q
theorem pe_makeS0 {CX : CXT} {f C : Addr} {fd : FuncData} {ps : List Str} {sp : Sp} {E : L2.St → XK} (M : Mk X.K C f) (F : FnOk X.prog X.w X.K X.mg X.base CX k f fd ps sp) (hr : Room (k + 1) X.A) (hg : Gl X x) (hm : X.mg x = some (.ref C)) (hb : Binds X.K fd ps []) (hx : ∀ σ, PassesAt CX X σ (E σ))
    (hdb : (x == ("__debug__" : Str)) = false := by decide) : PE X (.Call (.Name x p) [] [] pos) (tMakeS C sp E tNil) := by
  refine ⟨fun pins s σ H Q I h => ?_⟩
  refine wpAny_Call_Name_kw (ld_glob I hg hm ?_ hdb)
  exact PySem.W.callWith_K0 I.kIn M.kp (run_makeS (us := []) M F hr hb (hx σ) I .nil h)
theorem make_read {c nf : Nat} {sem : ISem} {g : DA} {t : TA} {σ : SS} {H F : Hp} {ρ : Store} {Q : VK} (hnf : (S.fl c).length = nf) (hg : ∀ σ H Q, sA S B W g σ H Q → t σ H Q) (rel : SRel S B F H σ ρ) (q : PostG S W (repV S) F H σ Q (mkD c nf sem n g ρ)) :
    tMakeS (He.ga S.K (S.cn c)) (spI S n sem) (WE W) t σ H Q := by
  refine hg _ _ _ (bindG rel q fun ds vs F1 H1 _ g1 r1 q1 => ?_)
  split at q1
  · rename_i hn
    intro x dx hx hdx ne
    have fx := fresh_of g1.fh hx
    have fdx := fresh_of g1.fh hdx
    have e1 : Ex H1 (upd (upd H1 dx (.own x)) x (.ins (He.ga S.K (S.cn c)) dx [])) := (Ex.new hdx).trans (Ex.new (by rw [upd_ne (Ne.symm ne)]; exact hx))
    refine ⟨by rw [List.length_cons, ← Reps.length r1, hn], F1, c, [], ds, x, dx, [], vs, rfl, g1.fh.trans e1, fx, upd_same, by simp, reps_nil, r1, ?_⟩
    have grow : ∀ {G' H' : Hp}, GrX x F1 (upd (upd H1 dx (.own x)) x (.ins (He.ga S.K (S.cn c)) dx [])) G' H' → Ex H1 H' := fun g a u q => g.h a u (fun z => by rw [z, hx] at q; cases q) (e1 a u q)
    cases hs : sem c [] ds with
    | ok fs =>
      rw [hs] at q1
      have q1 : PostG S W (repV S) F1 H1 σ Q (if fs.length = nf then .ok (.obj c fs) else .bad) := q1
      intro G' H' dx' gs' g gx h3 h4 h5
      split at q1
      · rename_i hf
        refine ⟨rfl, q1 (.ref x) (upd G' x (.ins (He.ga S.K (S.cn c)) dx' gs')) H' ⟨g.f.trans (Ex.new gx), grow g, fun a u qa => ?_, fun a h6 h7 => ?_⟩ ?_⟩
        · by_cases z : a = x
          · subst z
            rw [upd_same] at qa
            rw [h3]
            exact qa
          · rw [upd_ne z] at qa
            exact g.fh a u qa
        · have z : a ≠ x := fun z => h6 (z ▸ hx)
          rw [upd_ne z]
          exact g.no a (e1.ne h6) h7
        · show Rep S _ _ _
          simp only [Rep]
          exact ⟨x, dx', gs', rfl, upd_same, by rw [h4, hf, ← hnf, List.take_length], h5.mono (Ex.new gx)⟩
      · exact q1.elim
    | er cc =>
      rw [hs] at q1
      intro G' H' g
      exact q1 G' H' ⟨g.f, grow g, g.fh, fun a h6 h7 => g.no a (e1.ne h6) h7⟩
    | bad => rw [hs] at q1; exact q1
  · exact q1.elim
/-- what making the class c asks: its name x, its __init__ -/
structure MkE (P : Program) (w : World) (K : PySem.W.Frag) (mg : Str → Option Value) (base : Heap) (S : Sg) (k : Nat) (x : Str) (c n : Nat) (sem : ISem) : Prop where
  ex : ∃ f, mg x = some (.ref (He.ga K (S.cn c))) ∧ Mk K (He.ga K (S.cn c)) f ∧ InitE P w K mg base S k f n sem
theorem MkE.mono {P : Program} {w : World} {K : PySem.W.Frag} {mg : Str → Option Value} {base : Heap} {S : Sg} {j k : Nat} {x : Str} {c n : Nat} {sem : ISem} (h : MkE P w K mg base S j x c n sem) (l : j ≤ k) : MkE P w K mg base S k x c n sem := by
  obtain ⟨f, h1, h2, h3⟩ := h.ex
  exact ⟨f, h1, h2, h3.mono l⟩
theorem p_make {c nf : Nat} {sem : ISem} {g : DA} (M : MkE X.prog X.w X.K X.mg X.base S k x c n sem) (hnf : (S.fl c).length = nf) (hr : Room (k + 1) X.A) (tk : Takes X W) (ha : PA X (e :: es) (sA S B W g)) (hK : S.K = X.K := by rfl) (hg : Gl X x := by rfl) (hdb : (x == ("__debug__" : Str)) = false := by decide)
    (he : starEach (e :: es) X.env = (false, eval e X.env) :: starEach es X.env := by rfl) (hpl : (backTo pos (starEach es X.env)).any (·.1) = false := by rfl) : PE X (.Call (.Name x p) (e :: es) [] pos) (sE S B W (mkD c nf sem n g)) := by
  obtain ⟨f, h1, h2, h3⟩ := M.ex
  obtain ⟨fd, ps, h4, h5⟩ := h3.ex
  refine pe_imp (pe_makeS h2 h4 hr hg h1 h5 (fun σ => passAt tk σ) ha hdb he hpl) fun σ H Q ⟨F, ρ, rel, q⟩ => ?_
  rw [← hK]
  exact make_read hnf (fun _ _ _ h => h) rel q
theorem p_make0 {c nf : Nat} {sem : ISem} (M : MkE X.prog X.w X.K X.mg X.base S k x c n sem) (hnf : (S.fl c).length = nf) (hr : Room (k + 1) X.A) (tk : Takes X W) (hK : S.K = X.K := by rfl) (hg : Gl X x := by rfl) (hdb : (x == ("__debug__" : Str)) = false := by decide) :
    PE X (.Call (.Name x p) [] [] pos) (sE S B W (mkD c nf sem n nilA)) := by
  obtain ⟨f, h1, h2, h3⟩ := M.ex
  obtain ⟨fd, ps, h4, h5⟩ := h3.ex
  refine pe_imp (pe_makeS0 h2 h4 hr hg h1 h5 (fun σ => passAt tk σ) hdb) fun σ H Q ⟨F, ρ, rel, q⟩ => ?_
  rw [← hK]
  exact make_read hnf (fun _ _ _ ⟨F, ρ, rel, q⟩ => q [] F _ (Gr.refl rel.fh) reps_nil) rel q
end
end Vi

/-! Vi10: a base's __init__, isinstance, raise, try. -/
namespace Vi
open PySem PySem.Spec PyProof.Rows L2
section
variable {X : Cx} {S : Sg} {B : Bs} {W : WX} {e o a b c tg : Expr} {es : List Expr} {pos apos p p1 p2 : Pos} {x y m f sn : Str} {k n : Nat}
def exprS (f : DE) : SS_ := fun ρ => (f ρ).then ρ fun _ => .nx ρ
theorem s_expr {f : DE} (h : PE X e (sE S B W f)) (hs : swapsWith e none pos.line X.env = pure false := by rfl) : PS X (.Expr e pos) (tS S B W (exprS f)) := ps_imp (ps_expr h hs) fun D σ H ⟨F, ρ, rel, q⟩ =>
  bindS rel q fun d v F1 H1 _ g r q1 => q1 F1 H1 σ (.refl _) (rel.grow g)
/-! ### a base's __init__ -/
structure BaseE (P : Program) (w : World) (K : PySem.W.Frag) (mg : Str → Option Value) (base : Heap) (S : Sg) (k : Nat) (x : Str) (n : Nat) (sem : ISem) : Prop where
  ex : ∃ C mc f, mg x = some (.ref C) ∧ ClX.CRead K C mc ∧ ClX.CVal K C mc "__init__" (.ref f) (.ref f) ∧ PySem.W.keepIn K (.ref f) = true ∧ InitE P w K mg base S k f n sem
theorem BaseE.mono {P : Program} {w : World} {K : PySem.W.Frag} {mg : Str → Option Value} {base : Heap} {j k : Nat} {sem : ISem} (h : BaseE P w K mg base S j x n sem) (l : j ≤ k) : BaseE P w K mg base S k x n sem := by
  obtain ⟨C, mc, f, h1, h2, h3, h4, h5⟩ := h.ex
  exact ⟨C, mc, f, h1, h2, h3, h4, h5.mono l⟩
def initS (i n : Nat) (sem : ISem) (g : DA) : SS_ := fun ρ => match ρ[i]? with
  | some (.oo c fs) => (g ρ).then ρ fun ds => if ds.length = n then (match sem c fs ds with
    | .ok fs' => .nx (ρ.set i (.oo c fs'))
    | _ => .bad) else .bad
  | _ => .bad
theorem SRel.remade {F H F' H' : Hp} {σ : SS} {ρ : Store} (r : SRel S B F H σ ρ) {i c : Nat} {fs fs' : List D} {z dx' : Addr} {gs' : List (Str × V)} (hi : ρ[i]? = some (.oo c fs)) (hz : sl σ i = some (.ref z)) (g : GrX z F H F' H') (gz : F' z = none) (hz' : H' z = some (.ins (He.ga S.K (S.cn c)) dx' gs')) (hg : gs'.map (·.1) = (S.fl c).take fs'.length)
    (rf : Reps S F' fs' (gs'.map (·.2))) : SRel S B F' H' σ (ρ.set i (.oo c fs')) := by
  obtain ⟨fp, ok⟩ := r.slots
  obtain ⟨q, dx, gs, h1, h2, h3, h4, h5, h6⟩ := ok.rel i _ hi
  have eq : q = z := by
    rw [h1] at hz
    cases hz
    rfl
  subst eq
  have hf := (h6 q).mpr rfl
  have hlt := (List.getElem?_eq_some_iff.mp hi).1
  have e : σ.set i (some (.ref q)) = σ := set_id h1 (by rw [r.len]; exact hlt)
  rw [← e]
  refine r.upd1 ok (fun a => a = q) g.f g.fh (fun a u q1 q2 => g.h a u (fun z => by rw [z] at q2; exact q2 h2) (r.h0 a u q1 q2)) (fun a q1 => ?_) (fun a q1 q2 => g.no a (r.hn a q1) (r.fn a q1 q2))
    (fun _ => ⟨q, dx', gs', rfl, h2, hz', hg, rf, fun b => Iff.rfl⟩) (fun a q1 => ?_) fun j a hj q1 => ?_
  · by_cases za : a = q
    · rw [za, hz']; exact Option.some_ne_none _
    · obtain ⟨u, q2⟩ := some_ne (r.hn a q1)
      rw [g.h a u za q2]
      exact Option.some_ne_none _
  · subst q1
    exact ⟨(by rw [hz']; exact Option.some_ne_none _), gz, .inr h2⟩
  · have za : a ≠ q := fun z => hj (ok.one j i a q1 (z ▸ hf))
    obtain ⟨u, q2⟩ := some_ne (ok.at_ j a q1).1
    exact ⟨za, by rw [q2, g.h a u za q2], g.no a (ok.at_ j a q1).1 (ok.at_ j a q1).2.1⟩
theorem s_init (i : Nat) {sem : ISem} {g : DA} {pl : Sem Bool} (M : BaseE X.prog X.w X.K X.mg X.base S k x n sem) (hr : Room k X.A) (tk : Takes X W) (ha : PA X es (sA S B W g)) (hK : S.K = X.K := by rfl) (hgl : Gl X x := by rfl) (hdx : (x == ("__debug__" : Str)) = false := by decide)
    (hN : X.N[i]? = some sn := by rfl) (hv : Vis X.env.scope sn := by first | exact Or.inl rfl | exact Or.inr (Or.inl rfl) | exact Or.inr (Or.inr rfl)) (hd : (sn == ("__debug__" : Str)) = false := by decide) (hcd : (sn == ("__classdict__" : Str)) = false := by decide)
    (hst : starEach (.Name sn p1 :: es) X.env = (false, eval (.Name sn p1) X.env) :: starEach es X.env := by rfl) (hpl : (backTo pos (starEach es X.env)).any (·.1) = false := by rfl)
    (ht : eval (.Call (.Attribute (.Name x p) "__init__" apos) (.Name sn p1 :: es) [] pos) X.env = (do
      let ov ← eval (.Name x p) X.env
      standAt apos.atName
      let (f, first) ← holding [ov] (getMethod ov "__init__" pl)
      callWith pos f first (backTo pos (starEach (.Name sn p1 :: es) X.env)) (backToKw pos (keywordEach [] X.env))) := by rfl)
    (hs : swapsWith (.Call (.Attribute (.Name x p) "__init__" apos) (.Name sn p1 :: es) [] pos) none p2.line X.env = pure false := by rfl) :
    PS X (.Expr (.Call (.Attribute (.Name x p) "__init__" apos) (.Name sn p1 :: es) [] pos) p2) (tS S B W (initS i n sem g)) := by
  obtain ⟨C, mc, f, h1, h2, h3, h4, h5⟩ := M.ex
  obtain ⟨fd, ps, F, hb⟩ := h5.ex
  have hN2 : PE X (.Name sn p1) (tVar i) := pv i hN hv hd hcd
  have hp : PA X (.Name sn p1 :: es) (tCons (tVar i) (sA S B W g)) := pa_cons hN2 ha hst
  have pe : PE X (.Call (.Attribute (.Name x p) "__init__" apos) (.Name sn p1 :: es) [] pos) (fun σ H Q => (tCons (tVar i) (sA S B W g)) σ H fun vs H1 => spI S n sem vs H1 Q (WE W σ)) := by
    refine ⟨fun pins s σ H Q I h => ?_⟩
    refine PySem.W.methodCall_KW (pl := pl) (ld_glob I hgl h1 ?_ hdx) ht
    refine PySem.W.method_cls I.kIn h2.ga (ClX.getcval_ok I h2 h3 fun s1 I1 => ?_)
    refine PySem.W.callWith_K (first := []) (h₀ := X.base) I.ok.mod.kin h4 (thn (hp.run pos pins s1 σ H _ I1 h) fun us s2 ⟨vs, H2, I2, r, q2⟩ => ⟨I2.kIn, ?_⟩) hst hpl
    exact run_fnS F hr hb (passAt tk σ) I2 r q2
  refine ps_imp (ps_expr pe hs) fun D σ H ⟨F, ρ, rel, q⟩ => ?_
  unfold initS at q
  split at q
  · rename_i c fs hi
    obtain ⟨z, dx, gs, e1, e2, e3, e4, e5, _⟩ := rel.oo_inv hi
    refine ⟨_, sl_get e1, ?_⟩
    refine bindS rel q fun ds ws F1 H1 _ g1 r1 q1 => ?_
    split at q1
    · rename_i hn
      have rel1 := rel.grow g1
      obtain ⟨z', dx', gs', e1', e2', e3', e4', e5', _⟩ := rel1.oo_inv hi
      rw [e1] at e1'
      cases e1'
      obtain ⟨fp, ok⟩ := rel1.slots
      obtain ⟨z2, _, _, w1, _, _, _, _, w6⟩ := ok.rel i _ hi
      rw [e1] at w1
      cases w1
      refine ⟨by rw [List.length_cons, ← Reps.length r1, hn], F1, c, fs, ds, z, dx', gs', ws, rfl, g1.fh, (ok.at_ i z ((w6 z).mpr rfl)).2.1, e3', e4', e5', r1, ?_⟩
      cases hs2 : sem c fs ds with
      | ok fs' =>
        rw [hs2] at q1
        intro G' H' dx2 gs2 gx gz h7 h8 h9
        exact q1 G' H' σ gx.f (rel1.remade hi e1 gx gz h7 h8 h9)
      | er cc => rw [hs2] at q1; exact q1.elim
      | bad => rw [hs2] at q1; exact q1.elim
    · exact q1.elim
  · exact q.elim
/-! ### isinstance -/
/-- a value's type by number -/
def tagOf : D → Nat
  | .non => 0
  | .bl _ => 1
  | .int _ => 2
  | .str _ => 3
  | .lst _ => 4
  | .tup _ => 5
  | .dct _ _ => 6
  | .scr _ => 7
  | .obj c _ => c + 8
def tagV (S : Sg) : Nat → Value
  | 0 => .type "NoneType"
  | 1 => .type "bool"
  | 2 => .type "int"
  | 3 => .type "str"
  | 4 => .type "list"
  | 5 => .type "tuple"
  | 6 => .type "dict"
  | 7 => .none
  | c + 8 => cl S c
/-- instances of C are asked for their class in the usual way -/
structure InsC (K : PySem.W.Frag) (C : Addr) : Prop where
  cl : Cls K C
  ha : PySem.W.findIn K (.ref C) "__class__" = some (some (.builtin "object.__class__"))
  hn : PySem.W.specialIn K (.builtin "object.__class__") "__get__" = some (some (.builtin "getset_descriptor.__get__"))
  ht : PySem.W.takesIn K (.builtin "object.__class__") = some true
  hm : PySem.W.mroIn K C (.type "object") = some true
structure IsiE (K : PySem.W.Frag) (S : Sg) (u : Value) (tb : List (Nat × Bool)) : Prop where
  kit : ∀ q ∈ tb, PySem.W.kitOne K (tagV S q.1) u = some q.2
  ins : ∀ q ∈ tb, ∀ c, q.1 = c + 8 → InsC K (He.ga K (S.cn c))
def isiD (tb : List (Nat × Bool)) (f : DE) : DE := fun ρ => (f ρ).bind fun d => match tagOf d with
  | 7 => .bad
  | t => match tb.lookup t with
    | some b => .ok (.bl b)
    | none => .bad
theorem mem_lookN {α : Type} {tb : List (Nat × α)} {c : Nat} {b : α} (h : tb.lookup c = some b) : (c, b) ∈ tb := by
  induction tb with
  | nil => cases h
  | cons p r ih =>
    obtain ⟨j, s⟩ := p
    unfold List.lookup at h
    split at h
    · rename_i e
      cases h
      rw [beq_iff_eq.mp e]
      exact List.mem_cons_self
    · exact List.mem_cons_of_mem _ (ih h)
theorem tyx_of {H : Hp} {d : D} {v : V} {K : PySem.W.Frag} (hK : S.K = K) (r : Rep S H d v) (h7 : tagOf d ≠ 7) (hi : ∀ c, tagOf d = c + 8 → InsC K (He.ga K (S.cn c))) : TyX K H v (tagV S (tagOf d)) := by
  cases d with
  | non => rw [rep_non_inv r]; exact .base .non
  | bl x => rw [rep_bl_inv r]; exact .base (.bl x)
  | int x => rw [rep_int_inv r]; exact .base (.int x)
  | str x => rw [rep_str_inv r]; exact .base (.str x)
  | lst xs =>
    obtain ⟨a, vs, rfl, h1, _⟩ := rep_lst_inv r
    exact .base (.lst h1)
  | tup xs =>
    obtain ⟨a, vs, rfl, h1, _⟩ := rep_tup_inv r
    exact .base (.tup h1)
  | dct ks xs =>
    obtain ⟨a, kvs, rfl, h1, _⟩ := rep_dct_inv r
    exact .base (.dK h1)
  | scr ns => exact absurd rfl h7
  | obj c xs =>
    obtain ⟨a, dx, gs, rfl, h1, _⟩ := rep_obj_inv r
    have z := hi c rfl
    have h1 : H a = some (.ins (He.ga K (S.cn c)) dx gs) := by rw [← hK]; exact h1
    have e : tagV S (tagOf (.obj c xs)) = .ref (He.ga K (S.cn c)) := by
      show cl S c = _
      unfold cl
      rw [hK]
    rw [e]
    exact .base (.ins h1 z.cl z.ha z.hn z.ht z.hm)
theorem p_isi {tb : List (Nat × Bool)} {f : DE} {cv : V} {u : Value} (k : ClsV cv u) (E : IsiE X.K S u tb) (he : PE X e (bE S B W f)) (hc : PE X c (tC cv)) (hm : X.mg "isinstance" = none) (hK : S.K = X.K := by rfl) (hg : Gl X "isinstance" := by rfl)
    (hst : starEach (e :: [c]) X.env = (false, eval e X.env) :: starEach [c] X.env := by rfl) (hst2 : starEach (c :: []) X.env = (false, eval c X.env) :: starEach [] X.env := by rfl) (hpl : (backTo pos (starEach [c] X.env)).any (·.1) = false := by rfl) :
    PE X (.Call (.Name "isinstance" p) [e, c] [] pos) (sE S B W (isiD tb f)) :=
  pe_imp (pe_callB call_isi hg hm rfl (pa_cons he (pa_cons hc pa_nil hst2) hst) (by decide) (by decide) hst hpl) fun σ H Q ⟨F, ρ, rel, q⟩ => by
  refine bindG rel q fun d v F1 H1 _ g1 r1 q1 => ?_
  have q1 : PostG S W (repV S) F1 H1 σ Q (match tagOf d with
    | 7 => .bad
    | t => match tb.lookup t with
      | some b => .ok (.bl b)
      | none => .bad) := q1
  split at q1
  · exact q1.elim
  · rename_i t h7
    cases hl : tb.lookup (tagOf d) with
    | none => rw [hl] at q1; exact q1.elim
    | some bb =>
      rw [hl] at q1
      have hm := mem_lookN hl
      exact ⟨_, cv, _, u, bb, rfl, k, tyx_of hK r1 h7 (E.ins _ hm), E.kit _ hm, q1 (.bl bb) F1 H1 (Gr.refl g1.fh) rep_bl⟩
/-- .. of the error in hand -/
structure IsxE (K : PySem.W.Frag) (S : Sg) (u : Value) (tb : List (Nat × Bool)) : Prop where
  kit : ∀ q ∈ tb, PySem.W.kitOne K (cl S q.1) u = some q.2
  exc : ∀ q ∈ tb, ExcC K (He.ga K (S.cn q.1))
def isxD (i : Nat) (tb : List (Nat × Bool)) : DE := fun ρ => match ρ[i]? with
  | some (.exc c) => match tb.lookup c with
    | some b => .ok (.bl b)
    | none => .bad
  | _ => .bad
theorem p_isx (i : Nat) {tb : List (Nat × Bool)} {cv : V} {u : Value} {ad : Addr} {oe : Obj} {ec : Nat} {pn : List (Addr × Obj)} (k : ClsV cv u) (E : IsxE X.K S u tb) (hB : B.ea = some (ad, ec)) (hz : Zc (cl S ec) none oe) (hf : ∃ vs, oe.data = .fields vs) (hc : PE (X.suite ad ((ad, oe) :: pn)) c (tC cv)) (hm : X.mg "isinstance" = none) (hK : S.K = X.K := by rfl)
    (hg : Gl (X.suite ad ((ad, oe) :: pn)) "isinstance" := by rfl) (hN : X.N[i]? = some x := by rfl) (hv : Vis X.env.scope x := by first | exact Or.inl rfl | exact Or.inr (Or.inl rfl) | exact Or.inr (Or.inr rfl)) (hd : (x == ("__debug__" : Str)) = false := by decide) (hcd : (x == ("__classdict__" : Str)) = false := by decide)
    (hst : starEach (.Name x p1 :: [c]) X.env = (false, eval (.Name x p1) X.env) :: starEach [c] X.env := by rfl) (hst2 : starEach (c :: []) X.env = (false, eval c X.env) :: starEach [] X.env := by rfl) (hpl : (backTo pos (starEach [c] X.env)).any (·.1) = false := by rfl) :
    PE (X.suite ad ((ad, oe) :: pn)) (.Call (.Name "isinstance" p) [.Name x p1, c] [] pos) (sE S B W (isxD i tb)) := by
  refine ⟨fun pins s σ H Q I ⟨F, ρ, rel, q⟩ => ?_⟩
  unfold isxD at q
  split at q
  · rename_i cc hi
    cases hl : tb.lookup cc with
    | none => rw [hl] at q; exact q.elim
    | some bb =>
      rw [hl] at q
      have hmm := mem_lookN hl
      obtain ⟨a', e1, e2⟩ := rel.exc_inv hi
      rw [hB] at e1
      cases e1
      have hx := E.exc _ hmm
      have ez : cl S ec = .ref (He.ga X.K (S.cn ec)) := by unfold cl; rw [hK]
      rw [ez] at hz
      refine (pe_callB (X := X.suite ad ((ad, oe) :: pn)) (call_isE hx hz hf) hg hm rfl (pa_cons (pv i hN hv hd hcd) (pa_cons hc pa_nil hst2) hst) (by decide) (by decide) hst hpl).run pins s σ H Q I ?_
      refine ⟨_, sl_get e2, ?_⟩
      refine ⟨cv, u, bb, rfl, fun w r => k.eq r, ?_, q (.bl bb) F H (Gr.refl rel.fh) rep_bl⟩
      rw [← ez]
      exact E.kit _ hmm
  · exact q.elim
/-! ### raise -/
structure ExcE (K : PySem.W.Frag) (mg : Str → Option Value) (S : Sg) (x : Str) (c : Nat) : Prop where
  glo : mg x = some (.ref (He.ga K (S.cn c)))
  exc : PySem.W.excIn K (He.ga K (S.cn c)) He.veBase "ValueError.__new__" = true
  kp : PySem.W.keepIn K (.ref (He.ga K (S.cn c))) = true
  sub : PySem.W.subIn K (.ref (He.ga K (S.cn c))) (.type "BaseException") = some true
  ty : PySem.W.typeIn K (.ref (He.ga K (S.cn c))) = some (.type "type")
def raiseS (c : Nat) : SS_ := fun ρ => .er c ρ
theorem s_raise {j cc : Nat} (E : ExcE X.K X.mg S x cc) (hc : X.calm = true) (tk : Takes X W) (hK : S.K = X.K := by rfl) (hg : Gl X x := by rfl) (hdb : (x == ("__debug__" : Str)) = false := by decide) {pos' : Pos} : PS X (.Raise (some (.Call (.Name x p) [.Constant (.str m) j p2] [] pos)) none pos') (tS S B W (raiseS cc)) :=
  ps_imp (ps_raise hc tk (pmk_own PySem.F.excBase_ValueError E.exc E.glo E.kp (raises_own E.sub E.ty) hg hdb)) fun D σ H ⟨F, ρ, rel, q⟩ => by
  have q := q F H σ (.refl _) rel
  unfold cl at q
  rw [hK] at q
  exact q
/-! ### try -/
def forget1 : Slot → Slot
  | .exc _ => .no
  | s => s
def forget (ρ : Store) : Store := ρ.map forget1
theorem SRel.forget {F H : Hp} {σ : SS} {ρ : Store} (r : SRel S B F H σ ρ) (ea : Option (Addr × Nat)) : SRel S { B with ea := ea } F H σ (Vi.forget ρ) := by
  obtain ⟨fp, ok⟩ := r.slots
  refine ⟨r.fh, r.f0, r.h0, r.hn, r.fn, r.sn, by unfold Vi.forget; rw [List.length_map]; exact r.len, fp, fun i s e => ?_, ok.one, ok.at_⟩
  unfold Vi.forget at e
  rw [List.getElem?_map] at e
  cases h : ρ[i]? with
  | none => rw [h] at e; cases e
  | some t =>
    rw [h] at e
    cases e
    have z := ok.rel i t h
    cases t with
    | exc c => exact z.2
    | no => exact z
    | sh d => exact z
    | ol xs => exact z
    | od ks xs => exact z
    | oo c xs => exact z
theorem SRel.setExc {F H : Hp} {σ : SS} {ρ : Store} (r : SRel S B F H σ ρ) {i c : Nat} {a : Addr} (h : B.ea = some (a, c)) : SRel S B F H (σ.set i (some (.ref a))) (ρ.set i (.exc c)) := by
  obtain ⟨fp, ok⟩ := r.slots
  exact r.upd1 ok (fun _ => False) (.refl _) r.fh r.h0 r.hn r.fn (fun _ => ⟨⟨a, h, rfl⟩, fun _ z => z⟩) (fun _ z => z.elim) fun j a hj q => ⟨fun z => z, rfl, (ok.at_ j a q).2.1⟩
def tryAsS (i : Nat) (tb : List (Nat × Bool)) (sb su : SS_) : SS_ := fun ρ => match sb ρ with
  | .er c ρ' => (match tb.lookup c with
    | some true => (match su ((forget ρ').set i (.exc c)) with
      | .nx ρ2 => .nx (forget (ρ2.set i .no))
      | .bk ρ2 => .bk (forget (ρ2.set i .no))
      | .ct ρ2 => .ct (forget (ρ2.set i .no))
      | .rt d => .rt d
      | .rn d => .rn d
      | _ => .bad)
    | some false => .er c ρ'
    | none => .bad)
  | o => o
def tryS (tb : List (Nat × Bool)) (sb su : SS_) : SS_ := fun ρ => match sb ρ with
  | .er c ρ' => (match tb.lookup c with
    | some true => (match su ρ' with
      | .er _ _ => .bad
      | o => o)
    | some false => .er c ρ'
    | none => .bad)
  | o => o
variable {body suite : List Stmt} {b₀ : Stmt} {np pos' : Pos} {i : Nat} {cv : Value} {tb : List (Nat × Bool)} {sb su : SS_}
theorem s_tryAs (i : Nat) (hs : X.stack = X.env :: X.outer) (hf : X.env.frame = some X.env.locals) (hN : X.N.Nodup) (hc : Names X x cv) (tk : Takes X W) (hx : ∀ q ∈ tb, PySem.W.exmOne X.K (cl S q.1) cv = some q.2)
    (hb : ∀ (W : WX) (pn : List (Addr × Obj)) (xe : Value → Shared → Prop), Takes (X.tr pn xe) W → PassesOwn (model X.prog X.w) X.A X.env xe → PSs (X.tr pn xe) body (tS S B W sb))
    (hsu : ∀ (a : Addr) (oe : Obj) (c : Nat) (pn : List (Addr × Obj)) (B' : Bs), B'.ea = some (a, c) → Zc (cl S c) none oe → (∃ vs, oe.data = .fields vs) → PSs (X.suite a ((a, oe) :: pn)) (b₀ :: suite) (tS S B' W0 su))
    (hi : X.N[i]? = some y := by rfl) (hln : X.env.kindOf y = some .local := by rfl) :
    PS X (.Try body [.ExceptHandler (some (.Name x np)) (some y) (b₀ :: suite) pos'] [] [] pos) (tS S B W (tryAsS i tb sb su)) := by
  refine ps_imp (ps_try_as (ts := fun a cls d D σ H => ∃ c B', cls = cl S c ∧ d = none ∧ B'.ea = some (a, c) ∧ tS S B' W0 su D σ H) hs hf hN hi hln hc tk hb fun a oe cls d pn hz hd => ⟨fun pins s σ H D I ⟨c, B', e1, e2, e3, h⟩ => ?_⟩) fun D σ H ⟨F, ρ, rel, q⟩ => ?_
  · subst e1 e2
    exact (hsu a oe c pn B' e3 hz hd).run pins s σ H D I h
  · refine ⟨F, ρ, rel, ?_⟩
    unfold tryAsS at q
    cases hb : sb ρ with
    | er c ρ' =>
      rw [hb] at q
      have q : Post S B W F D (match tb.lookup c with
        | some true => (match su ((forget ρ').set i (.exc c)) with
          | .nx ρ2 => .nx (forget (ρ2.set i .no))
          | .bk ρ2 => .bk (forget (ρ2.set i .no))
          | .ct ρ2 => .ct (forget (ρ2.set i .no))
          | .rt d => .rt d
          | .rn d => .rn d
          | _ => .bad)
        | some false => .er c ρ'
        | none => .bad) := q
      intro F' H' σ' e' rel'
      cases hl : tb.lookup c with
      | none => rw [hl] at q; exact q.elim
      | some bb =>
        rw [hl] at q
        refine ⟨bb, hx _ (mem_lookN hl), fun hbb a ha => ?_, fun hbb => ?_⟩
        · subst hbb
          refine ⟨c, { B with ea := some (a, c) }, rfl, rfl, rfl, F', _, (rel'.forget _).setExc rfl, ?_⟩
          have q : Post S B W F D (match su ((forget ρ').set i (.exc c)) with
            | .nx ρ2 => .nx (forget (ρ2.set i .no))
            | .bk ρ2 => .bk (forget (ρ2.set i .no))
            | .ct ρ2 => .ct (forget (ρ2.set i .no))
            | .rt d => .rt d
            | .rn d => .rn d
            | _ => .bad) := q
          cases hu : su ((forget ρ').set i (.exc c)) with
          | nx ρ2 => rw [hu] at q; exact fun F2 H2 σ2 e2 r2 => q F2 H2 _ (e'.trans e2) ((r2.setNo i none).forget B.ea)
          | bk ρ2 => rw [hu] at q; exact fun F2 H2 σ2 e2 r2 => q F2 H2 _ (e'.trans e2) ((r2.setNo i none).forget B.ea)
          | ct ρ2 => rw [hu] at q; exact fun F2 H2 σ2 e2 r2 => q F2 H2 _ (e'.trans e2) ((r2.setNo i none).forget B.ea)
          | rn d => rw [hu] at q; exact fun l vs F2 H2 σ2 ρ2 e2 r2 h0 fl hl rv => q l vs F2 H2 σ2 _ (e'.trans e2) (r2.forget B.ea) h0 fl hl rv
          | rt d => rw [hu] at q; exact fun v F2 H2 σ2 ρ2 e2 r2 rv => q v F2 H2 σ2 _ (e'.trans e2) (r2.forget B.ea) rv
          | er c2 ρ2 => rw [hu] at q; exact q.elim
          | bad => rw [hu] at q; exact q.elim
        · subst hbb
          exact q F' H' σ' e' rel'
    | nx ρ' => rw [hb] at q; exact q
    | rt d => rw [hb] at q; exact q
    | rn d => rw [hb] at q; exact q
    | bk ρ' => rw [hb] at q; exact q
    | ct ρ' => rw [hb] at q; exact q
    | bad => rw [hb] at q; exact q
theorem s_try (hs : X.stack = X.env :: X.outer) (hf : X.env.frame = some X.env.locals) (hc : Names X x cv) (tk : Takes X W) (hx : ∀ q ∈ tb, PySem.W.exmOne X.K (cl S q.1) cv = some q.2)
    (hb : ∀ (W : WX) (pn : List (Addr × Obj)) (xe : Value → Shared → Prop), Takes (X.tr pn xe) W → PassesOwn (model X.prog X.w) X.A X.env xe → PSs (X.tr pn xe) body (tS S B W sb))
    (hsu : ∀ (a : Addr) (oe : Obj) (pn : List (Addr × Obj)), PSs (X.suite a ((a, oe) :: pn)) (b₀ :: suite) (tS S B W0 su)) :
    PS X (.Try body [.ExceptHandler (some (.Name x np)) none (b₀ :: suite) pos'] [] [] pos) (tS S B W (tryS tb sb su)) := by
  refine ps_imp (ps_try_only (ts := fun a cls d D σ H => tS S B W0 su D σ H) hs hf hc tk hb fun a oe cls d pn hz hd => hsu a oe pn) fun D σ H ⟨F, ρ, rel, q⟩ => ?_
  refine ⟨F, ρ, rel, ?_⟩
  unfold tryS at q
  cases hb : sb ρ with
  | er c ρ' =>
    rw [hb] at q
    have q : Post S B W F D (match tb.lookup c with
      | some true => (match su ρ' with
        | .er _ _ => .bad
        | o => o)
      | some false => .er c ρ'
      | none => .bad) := q
    intro F' H' σ' e' rel'
    cases hl : tb.lookup c with
    | none => rw [hl] at q; exact q.elim
    | some bb =>
      rw [hl] at q
      refine ⟨bb, hx _ (mem_lookN hl), fun hbb a ha => ?_, fun hbb => ?_⟩
      · subst hbb
        refine ⟨F', ρ', rel', ?_⟩
        have q : Post S B W F D (match su ρ' with
          | .er _ _ => .bad
          | o => o) := q
        have q := q.grow e'
        cases hu : su ρ' with
        | er c2 ρ2 => rw [hu] at q; exact q.elim
        | nx ρ' => rw [hu] at q; exact q
        | rt d => rw [hu] at q; exact q
        | rn d => rw [hu] at q; exact q
        | bk ρ' => rw [hu] at q; exact q
        | ct ρ' => rw [hu] at q; exact q
        | bad => rw [hu] at q; exact q
      · subst hbb
        exact q F' H' σ' e' rel'
  | nx ρ' => rw [hb] at q; exact q
  | rt d => rw [hb] at q; exact q
  | rn d => rw [hb] at q; exact q
  | bk ρ' => rw [hb] at q; exact q
  | ct ρ' => rw [hb] at q; exact q
  | bad => rw [hb] at q; exact q
end
end Vi

/-! Vi11: what the printed derivations use. -/
namespace Vi
open PySem PySem.Spec PyProof.Rows L2
theorem takesW0 {X : Cx} : Takes X W0 := fun _ _ ⟨_, _, _, _, _, _, _, _, _, _, _, _, _, _, _, _, w⟩ => w.elim
theorem u1 {k : Nat} {A : Around} (h : Room k A) : A.units + 1 < cLine := by have := h.un; omega
@[reducible] def gd (n : Nat) (sem : List D → R D) : List D → R D := fun ds => if ds.length = n then sem ds else .bad
section
variable {X : Cx} {S : Sg} {B : Bs} {W : WX} {e o a b c tg : Expr} {es : List Expr} {pos apos p p1 p2 : Pos} {x y m f sn : Str} {k n : Nat}
/-- a[b]: by place, or by key where a is a dict -/
def subD (d e : D) : Option D := match d with
  | .dct ks xs => getD (.dct ks xs) e
  | d => ixD d e
theorem p_subs {f g : DE} (hu : X.A.units + 1 < cLine) (ha : PE X a (iE S B W f)) (hb : PE X b (sE S B W g)) (hK : S.K = X.K := by rfl) (hs : NoSl b := by intro _ _; rfl) (hq : PlainIx b := by intro _ _; rfl) : PE X (.Subscript a b pos) (sE S B W (bin subD f g)) := by
  refine ⟨fun pins s σ H Q I ⟨F, ρ, rel, q⟩ => ?_⟩
  by_cases hd : ∃ ks xs, f ρ = .ok (.dct ks xs)
  · obtain ⟨ks, xs, hd⟩ := hd
    have e : bin subD f g ρ = bin getD f g ρ := by
      unfold bin
      rw [hd]
      rfl
    exact (p_dget (B := B) (W := W) hu ha hb hs).run pins s σ H Q I ⟨F, ρ, rel, e ▸ q⟩
  · have e : bin subD f g ρ = bin ixD f g ρ := by
      unfold bin
      cases h : f ρ with
      | ok d =>
        cases d with
        | dct ks xs => exact absurd ⟨ks, xs, h⟩ hd
        | _ => rfl
      | er c => rfl
      | bad => rfl
    exact (p_ix (B := B) (W := W) ha hb hq hK).run pins s σ H Q I ⟨F, ρ, rel, e ▸ q⟩
/-! ### comparisons as tests -/
theorem trG {F H : Hp} {σ : SS} {r : R D} {Q : Bool → Hp → Prop} (q : PostG S W repT F H σ Q (r.bind trD)) : PostG S W (repV S) F H σ (fun x H1 => ∃ c, x = .bl c ∧ Q c H1) r := by
  cases r with
  | ok d =>
    cases d with
    | bl b => exact fun v F' H' g r => ⟨b, rep_bl_inv r, q b F' H' g rfl⟩
    | _ => exact q.elim
  | er c => exact q
  | bad => exact q
theorem t_cmp {op : CmpOp} {r : R2} {m : D → D → Option D} {f g : DE} (ho : OpR X (compareOp op) r) (hm : OpIs S r m) (ha : PE X a (sE S B W f)) (hb : PE X b (sE S B W g)) (hk : behindInMarks op b = false) : PT X (.Compare a [op] [b] pos) (sT S B W (tV (bin m f g))) :=
  pt_imp (pt_cmpR ho ha hb hk) fun σ H Q ⟨F, ρ, rel, q⟩ => op2 hm rel (trG q)
theorem t_cmpB {op : CmpOp} {r : R2} {m : D → D → Option D} {f g : DE} (ho : OpR X (compareOp op) r) (hm : OpB S r m) (ha : PE X a (bE S B W f)) (hb : PE X b (bE S B W g)) (hk : behindInMarks op b = false) : PT X (.Compare a [op] [b] pos) (sT S B W (tV (bin m f g))) :=
  pt_imp (pt_cmpR ho ha hb hk) fun σ H Q ⟨F, ρ, rel, q⟩ => op2b hm rel (trG q)
theorem t_lt {f g : DE} (ha : PE X a (sE S B W f)) (hb : PE X b (sE S B W g)) : PT X (.Compare a [.Lt] [b] pos) (sT S B W (tV (bin oLt f g))) := t_cmp op_lt (opIs_i0 fun _ _ => ⟨rfl, rfl⟩) ha hb (nomark _)
theorem t_le {f g : DE} (ha : PE X a (sE S B W f)) (hb : PE X b (sE S B W g)) : PT X (.Compare a [.LtE] [b] pos) (sT S B W (tV (bin oLe f g))) := t_cmp op_le (opIs_i0 fun _ _ => ⟨rfl, rfl⟩) ha hb (nomark _)
theorem t_gt {f g : DE} (ha : PE X a (sE S B W f)) (hb : PE X b (sE S B W g)) : PT X (.Compare a [.Gt] [b] pos) (sT S B W (tV (bin oGt f g))) := t_cmp op_gt (opIs_i0 fun _ _ => ⟨rfl, rfl⟩) ha hb (nomark _)
theorem t_ge {f g : DE} (ha : PE X a (sE S B W f)) (hb : PE X b (sE S B W g)) : PT X (.Compare a [.GtE] [b] pos) (sT S B W (tV (bin oGe f g))) := t_cmp op_ge (opIs_i0 fun _ _ => ⟨rfl, rfl⟩) ha hb (nomark _)
theorem t_eq {f g : DE} (hr : X.A.units + 64 < cLine) (ha : PE X a (bE S B W f)) (hb : PE X b (bE S B W g)) (hK : S.K = X.K := by rfl) : PT X (.Compare a [.Eq] [b] pos) (sT S B W (tV (bin oEq f g))) :=
  t_cmpB (by rw [hK]; exact OpR.or op_eq (op_eqD hr)) opB_eq ha hb (nomark _)
theorem t_ne {f g : DE} (hr : X.A.units + 64 < cLine) (ha : PE X a (bE S B W f)) (hb : PE X b (bE S B W g)) (hK : S.K = X.K := by rfl) : PT X (.Compare a [.NotEq] [b] pos) (sT S B W (tV (bin oNe f g))) :=
  t_cmpB (by rw [hK]; exact OpR.or op_ne (op_neD hr)) opB_ne ha hb (nomark _)
theorem t_in {f g : DE} (hu : X.A.units + 1 < cLine) (ha : PE X a (bE S B W f)) (hb : PE X b (bE S B W g)) (hk : behindInMarks .In b = false := by rfl) (hK : S.K = X.K := by rfl) : PT X (.Compare a [.In] [b] pos) (sT S B W (tV (bin oIn f g))) :=
  t_cmpB (by rw [hK]; exact OpR.or op_in_seq (OpR.or op_in_str (op_inDct hu))) opB_in ha hb hk
theorem t_notIn {f g : DE} (hu : X.A.units + 1 < cLine) (ha : PE X a (bE S B W f)) (hb : PE X b (bE S B W g)) (hk : behindInMarks .NotIn b = false := by rfl) (hK : S.K = X.K := by rfl) : PT X (.Compare a [.NotIn] [b] pos) (sT S B W (tV (bin oNotIn f g))) :=
  t_cmpB (by rw [hK]; exact OpR.or op_notIn_seq (OpR.or L2.op_notin_str (op_notInDct hu))) opB_notIn ha hb hk
theorem t_isN {f : DE} {j : Nat} {pos' : Pos} (ha : PE X a (bE S B W f)) : PT X (.Compare a [.Is] [.Constant .none j pos'] pos) (sT S B W (tV (isN f))) := pt_imp (pt_cmp (pc_isN ha) rfl) fun σ H Q ⟨F, ρ, rel, q⟩ => by
  have q : PostG S W repT F H σ Q ((f ρ).bind fun d => .ok (isNon d)) := by
    unfold tV isN at q
    cases e : f ρ <;> (rw [e] at q; exact q)
  refine bindG rel q fun d x F1 H1 _ g1 r1 q1 => ?_
  exact ⟨_, congrArg V.bl (rep_isNon r1), q1 _ F1 H1 (Gr.refl g1.fh) rfl⟩
theorem t_notN {f : DE} {j : Nat} {pos' : Pos} (ha : PE X a (bE S B W f)) : PT X (.Compare a [.IsNot] [.Constant .none j pos'] pos) (sT S B W (tV (notN f))) := pt_imp (pt_cmp (pc_notN ha) rfl) fun σ H Q ⟨F, ρ, rel, q⟩ => by
  have q : PostG S W repT F H σ Q ((f ρ).bind fun d => .ok (!isNon d)) := by
    unfold tV notN at q
    cases e : f ρ <;> (rw [e] at q; exact q)
  refine bindG rel q fun d x F1 H1 _ g1 r1 q1 => ?_
  exact ⟨_, congrArg (fun z => V.bl (!z)) (rep_isNon r1), q1 _ F1 H1 (Gr.refl g1.fh) rfl⟩
theorem chain_read {p p' : Int → Int → Bool} {f g h : DE} {σ : SS} {H : Hp} {Q : VK} {F : Hp} {ρ : Store} (rel : SRel S B F H σ ρ) (q : PostG S W (repV S) F H σ Q (chain (i2 (fun _ _ => true) fun i j => .bl (p i j)) (i2 (fun _ _ => true) fun i j => .bl (p' i j)) f g h ρ)) :
    tChain (rI0 fun i j => .bl (p i j)) (rI0 fun i j => .bl (p' i j)) (sE S B W f) (sE S B W g) (sE S B W h) σ H Q := by
  refine bindG rel q fun d x F1 H1 _ g1 r1 q1 => bindG (rel.grow g1) q1 fun e' y F2 H2 _ g2 r2 q2 => ?_
  cases hz : i2 (fun _ _ => true) (fun i j => D.bl (p i j)) d e' with
  | none => rw [hz] at q2; exact q2.elim
  | some z =>
    rw [hz] at q2
    obtain ⟨i, j, rfl, rfl, _, rfl⟩ := i2_inv hz
    refine ⟨i, j, rep_int_inv r1, rep_int_inv r2, p i j, rfl, ?_⟩
    cases hp : p i j with
    | true =>
      rw [hp] at q2
      rw [if_pos rfl]
      refine bindG ((rel.grow g1).grow g2) q2 fun k w F3 H3 _ g3 r3 q3 => ?_
      obtain ⟨z2, hz2, q4⟩ := endG q3
      obtain ⟨i2', j2, e1, rfl, _, rfl⟩ := i2_inv hz2
      cases e1
      exact ⟨_, j2, rep_int_inv r2, rep_int_inv r3, q4 _ F3 H3 (Gr.refl g3.fh) rep_bl⟩
    | false =>
      rw [hp] at q2
      rw [if_neg Bool.false_ne_true]
      exact q2 _ F2 H2 (Gr.refl g2.fh) rep_bl
theorem t_chain {op op' : CmpOp} {p p' : Int → Int → Bool} {f g h : DE} (ho : OpR X (compareOp op) (rI0 fun i j => .bl (p i j))) (ho' : OpR X (compareOp op') (rI0 fun i j => .bl (p' i j))) (ha : PE X a (sE S B W f)) (hb : PE X b (sE S B W g)) (hc : PE X c (sE S B W h))
    (hm : lastMarks [op, op'] [b, c] = false := by with_unfolding_all rfl) : PT X (.Compare a [op, op'] [b, c] pos) (sT S B W (tV (chain (i2 (fun _ _ => true) fun i j => .bl (p i j)) (i2 (fun _ _ => true) fun i j => .bl (p' i j)) f g h))) :=
  pt_imp (pt_chain ho ho' ha hb hc hm) fun σ H Q ⟨F, ρ, rel, q⟩ => chain_read rel (trG q)
end
/-- THE RULE for a def, at its function object -/
theorem mk_ok {P : Program} {w : World} {K : PySem.W.Frag} {mg : Str → Option Value} {base : Heap} {S : Sg} {x qual : Str} {params : Arguments} {body : List Stmt} {scope : Scope} {f : Addr} {fd : FuncData} {N ps : List Str} {k : Nat} {s : SS_}
    (F : FunD K x qual params body scope [] [] f fd) (sc : FnScope N ps scope)
    (hb : ∀ (B : Bs) (W : WX) (cdv : Value) (A : Around) (outer : List Env) (st : Shared) (H : Hp) (E : XK), Room k (cxOf (L2.CX P w) P w K mg base N qual scope f cdv A outer st H E).A → Takes (cxOf (L2.CX P w) P w K mg base N qual scope f cdv A outer st H E) W →
      PassesOwn (model P w) (cxOf (L2.CX P w) P w K mg base N qual scope f cdv A outer st H E).A (cxOf (L2.CX P w) P w K mg base N qual scope f cdv A outer st H E).env (cxOf (L2.CX P w) P w K mg base N qual scope f cdv A outer st H E).xe →
      PSs (cxOf (L2.CX P w) P w K mg base N qual scope f cdv A outer st H E) body (tS S B W s)) : FnOk P w K mg base (L2.CX P w) (k + 1) f fd ps (spF S ps.length (runF N.length ps.length s)) := by
  refine F.ok sc (fun vs H Q E h => h.1) fun cdv A outer st H vs Q E hr h => ?_
  obtain ⟨hl, G, ds, hG, r, q⟩ := h
  refine ⟨_, hb { F0 := G, H0 := H } (fun cls d _ H' => E cls d H') cdv A outer st H E hr (takes_of rfl rfl rfl rfl) (passes_of rfl), G, _, start_rel hG r hl, ?_⟩
  have el : ds.length = ps.length := by rw [r.length]; exact hl
  unfold runF at q
  rw [if_pos el] at q
  cases hs : s (entry N.length ps.length ds) with
  | rt d => rw [hs] at q; exact fun v F' H' σ' ρ' _ rel r' => q v F' H' (Gr.of_rel hG rel) r'
  | nx ρ' => rw [hs] at q; exact fun F' H' σ' _ rel => q .non F' H' (Gr.of_rel hG rel) rep_non
  | er c ρ' => rw [hs] at q; exact fun F' H' σ' _ rel => q F' H' (Gr.of_rel hG rel)
  | bk ρ' => rw [hs] at q; exact q.elim
  | rn d => rw [hs] at q; exact q.elim
  | ct ρ' => rw [hs] at q; exact q.elim
  | bad => rw [hs] at q; exact q.elim
/-- a def by its module's name, from its promise -/
theorem fnE_of {P : Program} {w : World} {K : PySem.W.Frag} {mg : Str → Option Value} {base : Heap} {S : Sg} {k : Nat} {x : Str} {n : Nat} {sem : List D → R D} {f : Addr} {fd : FuncData} {ps : List Str} (hm : mg x = some (.ref f)) (kp : PySem.W.keepIn K (.ref f) = true) (h : FnOk P w K mg base (L2.CX P w) k f fd ps (spF S n sem)) (b : Binds K fd ps []) : FnE P w K mg base S k x n sem := ⟨f, fd, ps, hm, kp, h, b⟩
theorem methE_of {P : Program} {w : World} {K : PySem.W.Frag} {mg : Str → Option Value} {base : Heap} {S : Sg} {k : Nat} {c n : Nat} {m : Str} {sem : List D → R D} {f : Addr} {fd : FuncData} {ps : List Str} (hc : Cls K (He.ga K (S.cn c))) (hm : Meth K (He.ga K (S.cn c)) m f) (h : FnOk P w K mg base (L2.CX P w) k f fd ps (spF S n sem)) (b : Binds K fd ps []) (nf : m ∉ S.fl c) : MethE P w K mg base S k c m n sem := ⟨f, fd, ps, hc, hm, h, b, nf⟩
theorem glob_of {mg : Str → Option Value} {x : Str} {v : V} {u : Value} (h : mg x = some u) (r : RelV v u) : ∃ u, mg x = some u ∧ RelV v u := ⟨u, h, r⟩
end Vi

/-! Vi12: lists that were just made, to be one's own. -/
namespace Vi
open PySem PySem.Spec PyProof.Rows L2
section
variable {X : Cx} {S : Sg} {B : Bs} {W : WX} {e o a b c tg : Expr} {es : List Expr} {pos apos p p1 p2 : Pos} {x y m f sn : Str} {k n : Nat}
def PostN (S : Sg) (W : WX) (F H : Hp) (σ : SS) (Q : VK) : R (List D) → Prop
  | .ok xs => ∀ l vs F' H', Gr F H F' H' → H l = none → F' l = none → H' l = some (.lst vs) → Reps S F' xs vs → Q (.ref l) H'
  | .er c => ∀ F' H', Gr F H F' H' → W (cl S c) none σ H'
  | .bad => False
def nE (S : Sg) (B : Bs) (W : WX) (f : DA) : TE := fun σ H Q => ∃ F ρ, SRel S B F H σ ρ ∧ PostN S W F H σ Q (f ρ)
theorem PostN.grow {F F' H H' : Hp} {σ : SS} {Q : VK} {r : R (List D)} (g : Gr F H F' H') (h : PostN S W F H σ Q r) : PostN S W F' H' σ Q r := by
  cases r with
  | ok a => exact fun l vs F2 H2 g2 hl fl hl2 q => h l vs F2 H2 (g.trans g2) (by
      cases z : H l with
      | none => rfl
      | some o => rw [g.h _ _ z] at hl; cases hl) fl hl2 q
  | er c => exact fun F2 H2 g2 => h F2 H2 (g.trans g2)
  | bad => exact h
theorem bindN {α υ : Type} {rep : Hp → Hp → α → υ → Prop} {f : Store → R α} {k : α → R (List D)} {F H : Hp} {σ : SS} {ρ : Store} {Q : VK} {G : υ → Hp → Prop} (rel : SRel S B F H σ ρ) (h : PostN S W F H σ Q ((f ρ).bind k))
    (hk : ∀ a v F1 H1, f ρ = .ok a → Gr F H F1 H1 → rep F1 H1 a v → PostN S W F1 H1 σ Q (k a) → G v H1) : tG S B W rep f σ H G := by
  refine ⟨F, ρ, rel, ?_⟩
  cases e : f ρ with
  | ok a =>
    rw [e] at h
    exact fun v F1 H1 g r => hk a v F1 H1 e g r (h.grow g)
  | er c =>
    rw [e] at h
    exact h
  | bad =>
    rw [e] at h
    exact h
/-- what was just made may be shared -/
theorem p_n {f : DA} (h : PE X e (nE S B W f)) : PE X e (sE S B W fun ρ => (f ρ).bind fun xs => .ok (.lst xs)) := pe_imp h fun σ H Q ⟨F, ρ, rel, q⟩ => by
  refine ⟨F, ρ, rel, ?_⟩
  have q : PostG S W (repV S) F H σ Q ((f ρ).bind fun xs => .ok (.lst xs)) := q
  cases r : f ρ with
  | ok xs =>
    rw [r] at q
    intro l vs F' H' g hl fl hv rv
    have q : PostG S W (repV S) F H σ Q (.ok (.lst xs)) := q
    have ef : Ex F' (upd F' l (.lst vs)) := Ex.new fl
    refine q (.ref l) (upd F' l (.lst vs)) H' ⟨g.f.trans ef, g.h, fun a u qa => ?_, fun a h1 h2 => ?_⟩ (rep_lst upd_same (rv.mono ef))
    · by_cases z : a = l
      · subst z
        rw [upd_same] at qa
        rw [hv]
        exact qa
      · rw [upd_ne z] at qa
        exact g.fh _ _ qa
    · have z : a ≠ l := fun z => h1 (z ▸ hl)
      rw [upd_ne z]
      exact g.no a h1 h2
  | er c => rw [r] at q; exact q
  | bad => rw [r] at q; exact q
def addN (f g : DE) : DA := fun ρ => (f ρ).bind fun d => (g ρ).bind fun e => match d, e with
  | .lst xs, .lst ys => if small (xs.length + ys.length) = true then .ok (xs ++ ys) else .bad
  | _, _ => .bad
theorem n_add {f g : DE} (ha : PE X a (sE S B W f)) (hb : PE X b (sE S B W g)) (hK : S.K = X.K := by rfl) : PE X (.BinOp a .Add b pos) (nE S B W (addN f g)) := pe_imp (pe_op op_cat ha hb) fun σ H Q ⟨F, ρ, rel, q⟩ => by
  refine bindN rel q fun d x F1 H1 _ g1 r1 q1 => bindN (rel.grow g1) q1 fun e' y F2 H2 _ g2 r2 q2 => ?_
  cases d with
  | lst xs =>
    cases e' with
    | lst ys =>
      have q2 : PostN S W F2 H2 σ Q (if small (xs.length + ys.length) = true then .ok (xs ++ ys) else .bad) := q2
      split at q2
      · rename_i c
        obtain ⟨a, vs, rfl, h1, h2⟩ := rep_lst_inv (Rep.mono g2.f r1)
        obtain ⟨b, ws, rfl, h3, h4⟩ := rep_lst_inv r2
        refine ⟨a, b, vs, ws, rfl, rfl, g2.fh _ _ h1, g2.fh _ _ h3, by rw [← h2.length, ← h4.length]; exact small_le c, fun p hp => ?_⟩
        exact q2 p _ F2 _ (Gr.aside g2.fh hp) hp (fresh_of g2.fh hp) upd_same (h2.append h4)
      · exact q2.elim
    | _ => exact q2.elim
  | _ => exact q2.elim
def dspN (g : DA) : DA := fun ρ => (g ρ).bind fun ds => if small ds.length = true then .ok ds else .bad
theorem n_lst {g : DA} (h : PA X es (sA S B W g)) : PE X (.List es pos) (nE S B W (dspN g)) := pe_imp (pe_lst h) fun σ H Q ⟨F, ρ, rel, q⟩ => by
  refine bindN rel q fun ds vs F1 H1 _ g1 r1 q1 => ?_
  split at q1
  · rename_i c
    exact ⟨by rw [← r1.length]; exact small_le c, fun p hp => q1 p _ F1 _ (Gr.aside g1.fh hp) hp (fresh_of g1.fh hp) upd_same r1⟩
  · exact q1.elim
def listN (f : DE) : DA := fun ρ => (f ρ).bind fun d => match listD d with
  | some (.lst xs) => .ok xs
  | _ => .bad
theorem n_list {f : DE} (ha : PE X e (iE S B W f)) (hm : X.mg "list" = none) (hK : S.K = X.K := by rfl) (he : starEach (e :: []) X.env = (false, eval e X.env) :: starEach [] X.env := by rfl) (hpl : (backTo p2 (starEach [] X.env)).any (·.1) = false := by rfl) (hg : Gl X "list" := by rfl) :
    PE X (.Call (.Name "list" p1) [e] [] p2) (nE S B W (listN f)) := pe_imp (pe_callTy call_list_of hg hm PyProof.Rows.boot_list (pa_cons ha pa_nil he) (by decide) (by decide) he hpl) fun σ H Q ⟨F, ρ, rel, q⟩ => by
  refine bindN rel q fun d v F1 H1 _ g1 r1 q1 => ?_
  rw [← hK]
  cases d with
  | lst xs =>
    obtain ⟨a, vs, rfl, h1, h2⟩ := r1.lst g1.fh
    exact ⟨a, vs, rfl, .inl (SqL.of h1), fun l hl => q1 l _ F1 _ (Gr.aside g1.fh hl) hl (fresh_of g1.fh hl) upd_same h2⟩
  | tup xs =>
    obtain ⟨a, vs, rfl, h1, h2⟩ := rep_tup_inv (r1.sh (fun _ z => nomatch z) fun _ _ z => nomatch z)
    exact ⟨a, vs, rfl, .inr (SqT.of (g1.fh _ _ h1)), fun l hl => q1 l _ F1 _ (Gr.aside g1.fh hl) hl (fresh_of g1.fh hl) upd_same h2⟩
  | scr ns =>
    obtain ⟨a, rfl, h1⟩ := rep_scr_inv (r1.sh (fun _ z => nomatch z) fun _ _ z => nomatch z)
    exact ⟨a, _, rfl, .inl (g1.fh.sqL h1), fun l hl => q1 l _ F1 _ (Gr.aside g1.fh hl) hl (fresh_of g1.fh hl) upd_same (reps_ints _)⟩
  | _ => exact q1.elim
def lcN (it : DA) (t : Tg) (test : DB) (el : DE) (vs : List Nat) : DA := fun ρ => (it ρ).bind fun ds => if small ds.length = true then lcL t test el (wipeS ρ vs) ds else .bad
theorem n_lc {it : DA} {t : Tg} {test : DB} {el : DE} {elt iter : Expr} {ifs : List Expr} {scope : Scope} {own : List (Str × Nat)} (hc : X.calm = true) (hN : X.N.Nodup) (hi : PI X tg iter (jI S B W true it)) (ok : BlkOk X.N X.env.scope scope own) (hv : ∀ i ∈ t.ix, i ∈ own.map (·.2))
    (hg : ∃ g, TgOk S B g t ∧ ∀ (s : Shared) (H : Hp) (C : Addr) (cl : List (Str × Addr)) (fp : List Addr), PG (X.blk s H scope (compEnvC scope cl C X.env) fp) tg g)
    (ht : ∀ (s : Shared) (H : Hp) (C : Addr) (cl : List (Str × Addr)) (fp : List Addr), PTs (X.blk s H scope (compEnvC scope cl C X.env) fp) ifs (sT S B W0 test))
    (he : ∀ (s : Shared) (H : Hp) (C : Addr) (cl : List (Str × Addr)) (fp : List Addr), PE (X.blk s H scope (compEnvC scope cl C X.env) fp) elt (sE S B W0 el)) (hs : ∀ x, foldedSetIterable iter X.env x = pure x := by intro _; rfl) :
    PE X (.ListComp elt [⟨tg, iter, ifs, 0⟩] scope pos) (nE S B W (lcN it t test el (own.map (·.2)))) := by
  obtain ⟨g, h1, h2⟩ := hg
  exact pe_imp (pe_lc hc hN hi ok h2 ht he hs) fun σ H Q ⟨F, ρ, rel, q⟩ => by
    refine bindN rel q fun ds J F1 H1 _ g1 it1 q1 => ?_
    split at q1
    · rename_i cz
      cases hyy : lcL t test el (wipeS ρ (own.map (·.2))) ds with
      | bad => rw [hyy] at q1; exact q1.elim
      | er c => exact absurd hyy (lcL_noer ds c)
      | ok ys =>
        rw [hyy] at q1
        exact lc_own (Q := Q) h1 hv (rel.grow g1) (.refl _) it1 cz hyy fun L acc F' H' ⟨hL, eN⟩ eF eH rel' ⟨fp, ok', nf⟩ fL h0 hs hL2 ha => q1 L acc F' H' ⟨eF, eH, rel'.fh, eN⟩ hL fL hL2 ha
    · exact q1.elim
/-- x = e, e just made: x's own -/
def ownNS (i : Nat) (f : DA) : SS_ := fun ρ => (f ρ).then ρ fun xs => .nx (ρ.set i (.ol xs))
theorem readN {f : DA} {D : Ends} {F H : Hp} {σ : SS} {ρ : Store} {k : List Vi.D → Out} {Q : VK} (rel : SRel S B F H σ ρ) (h : Post S B W F D ((f ρ).then ρ k))
    (hk : ∀ xs l vs F' H', f ρ = .ok xs → Gr F H F' H' → H l = none → F' l = none → H' l = some (.lst vs) → Reps S F' xs vs → Post S B W F' D (k xs) → Q (.ref l) H') : nE S B W f σ H Q := by
  refine ⟨F, ρ, rel, ?_⟩
  cases e : f ρ with
  | ok xs =>
    rw [e] at h
    exact fun l vs F' H' g hl fl hv rv => hk xs l vs F' H' e g hl fl hv rv (h.grow g.f)
  | er c =>
    rw [e] at h
    exact fun F' H' g => h F' H' σ g.f (rel.grow g)
  | bad =>
    rw [e] at h
    exact h.elim
theorem s_ownN (i : Nat) {f : DA} {x : Str} {p : Pos} (hN : X.N.Nodup) (h : PE X e (nE S B W f)) (hi : X.N[i]? = some x := by rfl) (hx : Loc X.env.scope x := by first | exact Or.inl rfl | exact Or.inr rfl) (hs : swapsWith e (some (.Name x p)) pos.line X.env = pure false := by rfl)
    (hf : X.fn x = true ∨ X.env.scope.names.lookup x = some .local := by first | exact .inl rfl | exact .inr rfl) : PS X (.Assign [.Name x p] e pos) (tS S B W (ownNS i f)) := ps_imp (ps_set hN hi hx h hs hf) fun D σ H ⟨F, ρ, rel, q⟩ => by
  refine readN rel q fun xs l vs F' H' _ g hl fl hv rv q1 => ?_
  have rel' := rel.grow g
  obtain ⟨fp, ok⟩ := rel.slots
  exact q1 F' H' _ (.refl _) (rel'.takeOl (ok.grow g) (fun j z => (ok.at_ j l z).1 hl) fl (rel.h0none hl) (rel.selfne hl) hv rv)
/-- return e, e just made -/
def retNewS (f : DA) : SS_ := fun ρ => (f ρ).then ρ fun xs => .rn xs
theorem s_retNew {f : DA} (h : PE X e (nE S B W f)) : PS X (.Return (some e) pos) (tS S B W (retNewS f)) := ps_imp (ps_ret h) fun D σ H ⟨F, ρ, rel, q⟩ =>
  readN rel q fun xs l vs F' H' _ g hl fl hv rv q1 => q1 l vs F' H' σ ρ (.refl _) (rel.grow g) (rel.h0none hl) fl hv rv
/-- return x, x one's own list that nobody else holds -/
def retOwnS (i : Nat) : SS_ := fun ρ => match ρ[i]? with
  | some (.ol xs) => .rn xs
  | _ => .bad
theorem s_retOwn (i : Nat) {x : Str} {p : Pos} (hN : X.N[i]? = some x := by rfl) (hv : Vis X.env.scope x := by first | exact Or.inl rfl | exact Or.inr (Or.inl rfl) | exact Or.inr (Or.inr rfl)) (hd : (x == ("__debug__" : Str)) = false := by decide)
    (hcd : (x == ("__classdict__" : Str)) = false := by decide) : PS X (.Return (some (.Name x p)) pos) (tS S B W (retOwnS i)) := ps_imp (ps_ret (pv i hN hv hd hcd)) fun D σ H ⟨F, ρ, rel, q⟩ => by
  unfold retOwnS at q
  split at q
  · rename_i xs hi
    obtain ⟨fp, ok⟩ := rel.slots
    obtain ⟨l, vs, h1, h2, h3, h4, h5⟩ := ok.rel i _ hi
    obtain ⟨a1, a2, a3⟩ := ok.at_ i l ((h5 l).mpr rfl)
    refine ⟨_, sl_get h1, q l vs F H σ ρ (.refl _) rel ?_ a2 h2 h3⟩
    rcases a3 with a3 | a3
    · exact a3
    · exact absurd a3 h4
  · exact q.elim
end
/-! ### defs whose end is a list just made -/
def spN (S : Sg) (n : Nat) (sem : List D → R (List D)) : Sp := fun vs H Q E => vs.length = n ∧ ∃ G ds, Ex G H ∧ Reps S G ds vs ∧ (match sem ds with
  | .ok xs => ∀ l ws G' H', Gr G H G' H' → H l = none → G' l = none → H' l = some (.lst ws) → Reps S G' xs ws → Q (.ref l) H'
  | .er c => ∀ G' H', Gr G H G' H' → E (cl S c) none H'
  | .bad => False)
structure FnN (P : Program) (w : World) (K : PySem.W.Frag) (mg : Str → Option Value) (base : Heap) (S : Sg) (k : Nat) (x : Str) (n : Nat) (sem : List D → R (List D)) : Prop where
  ex : ∃ f fd ps, mg x = some (.ref f) ∧ PySem.W.keepIn K (.ref f) = true ∧ FnOk P w K mg base (L2.CX P w) k f fd ps (spN S n sem) ∧ Binds K fd ps []
theorem FnN.mono {P : Program} {w : World} {K : PySem.W.Frag} {mg : Str → Option Value} {base : Heap} {S : Sg} {j k : Nat} {x : Str} {n : Nat} {sem : List D → R (List D)} (h : FnN P w K mg base S j x n sem) (l : j ≤ k) : FnN P w K mg base S k x n sem := by
  obtain ⟨f, fd, ps, h1, h2, h3, h4⟩ := h.ex
  exact ⟨f, fd, ps, h1, h2, h3.mono l, h4⟩
def runN (N n : Nat) (s : SS_) : List D → R (List D) := fun ds => if ds.length = n then (match s (entry N n ds) with
  | .rn xs => .ok xs
  | .er c _ => .er c
  | _ => .bad) else .bad
theorem mk_okN {P : Program} {w : World} {K : PySem.W.Frag} {mg : Str → Option Value} {base : Heap} {S : Sg} {x qual : Str} {params : Arguments} {body : List Stmt} {scope : Scope} {f : Addr} {fd : FuncData} {N ps : List Str} {k : Nat} {s : SS_}
    (F : FunD K x qual params body scope [] [] f fd) (sc : FnScope N ps scope)
    (hb : ∀ (B : Bs) (W : WX) (cdv : Value) (A : Around) (outer : List Env) (st : Shared) (H : Hp) (E : XK), Room k (cxOf (L2.CX P w) P w K mg base N qual scope f cdv A outer st H E).A → Takes (cxOf (L2.CX P w) P w K mg base N qual scope f cdv A outer st H E) W →
      PassesOwn (model P w) (cxOf (L2.CX P w) P w K mg base N qual scope f cdv A outer st H E).A (cxOf (L2.CX P w) P w K mg base N qual scope f cdv A outer st H E).env (cxOf (L2.CX P w) P w K mg base N qual scope f cdv A outer st H E).xe →
      PSs (cxOf (L2.CX P w) P w K mg base N qual scope f cdv A outer st H E) body (tS S B W s)) : FnOk P w K mg base (L2.CX P w) (k + 1) f fd ps (spN S ps.length (runN N.length ps.length s)) := by
  refine F.ok sc (fun vs H Q E h => h.1) fun cdv A outer st H vs Q E hr h => ?_
  obtain ⟨hl, G, ds, hG, r, q⟩ := h
  refine ⟨_, hb { F0 := G, H0 := H } (fun cls d _ H' => E cls d H') cdv A outer st H E hr (takes_of rfl rfl rfl rfl) (passes_of rfl), G, _, start_rel hG r hl, ?_⟩
  have el : ds.length = ps.length := by rw [r.length]; exact hl
  unfold runN at q
  rw [if_pos el] at q
  cases hs : s (entry N.length ps.length ds) with
  | rn xs => rw [hs] at q; exact fun l ws F' H' σ' ρ' _ rel h0 fl hl rv => q l ws F' H' (Gr.of_rel hG rel) h0 fl hl rv
  | er c ρ' => rw [hs] at q; exact fun F' H' σ' _ rel => q F' H' (Gr.of_rel hG rel)
  | rt d => rw [hs] at q; exact q.elim
  | nx ρ' => rw [hs] at q; exact q.elim
  | bk ρ' => rw [hs] at q; exact q.elim
  | ct ρ' => rw [hs] at q; exact q.elim
  | bad => rw [hs] at q; exact q.elim
theorem fnN_of {P : Program} {w : World} {K : PySem.W.Frag} {mg : Str → Option Value} {base : Heap} {S : Sg} {k : Nat} {x : Str} {n : Nat} {sem : List D → R (List D)} {f : Addr} {fd : FuncData} {ps : List Str} (hm : mg x = some (.ref f)) (kp : PySem.W.keepIn K (.ref f) = true) (h : FnOk P w K mg base (L2.CX P w) k f fd ps (spN S n sem)) (b : Binds K fd ps []) : FnN P w K mg base S k x n sem := ⟨f, fd, ps, hm, kp, h, b⟩
@[reducible] def gdN (n : Nat) (sem : List D → R (List D)) : List D → R (List D) := fun ds => if ds.length = n then sem ds else .bad
def callN (sem : List D → R (List D)) (g : DA) : DA := fun ρ => (g ρ).bind sem
section
variable {X : Cx} {S : Sg} {B : Bs} {W : WX} {e o a b c tg : Expr} {es : List Expr} {pos apos p : Pos} {x : Str} {k n : Nat} {sem : List D → R (List D)} {st : Stmt} {sts : List Stmt}
theorem n_call {g : DA} (G : FnN X.prog X.w X.K X.mg X.base S k x n sem) (hr : Room k X.A) (tk : Takes X W) (ha : PA X (e :: es) (sA S B W g)) (hg : Gl X x := by rfl) (hdb : (x == ("__debug__" : Str)) = false := by decide) (he : starEach (e :: es) X.env = (false, eval e X.env) :: starEach es X.env := by rfl)
    (hpl : (backTo pos (starEach es X.env)).any (·.1) = false := by rfl) : PE X (.Call (.Name x p) (e :: es) [] pos) (nE S B W (callN (gdN n sem) g)) := by
  obtain ⟨f, fd, ps, h1, h2, h3, h4⟩ := G.ex
  refine pe_imp (pe_callS h3 hr hg h1 h2 h4 (fun σ => passAt tk σ) ha hdb he hpl) fun σ H Q ⟨F, ρ, rel, q⟩ => ?_
  refine bindN rel q fun ds vs F1 H1 _ g1 r1 q1 => ?_
  have q1 : PostN S W F1 H1 σ Q (if ds.length = n then sem ds else .bad) := q1
  split at q1
  · rename_i hn
    refine ⟨by rw [← Reps.length r1]; exact hn, F1, ds, g1.fh, r1, ?_⟩
    cases hs : sem ds with
    | ok d => rw [hs] at q1; exact fun l ws G' H' gg hl fl hv rv => q1 l ws G' H' gg hl fl hv rv
    | er c => rw [hs] at q1; exact q1
    | bad => rw [hs] at q1; exact q1
  · exact q1.elim
/-- nothing is promised -/
def badS : SS_ := fun _ => .bad
theorem s_bad : PSs X sts (tS S B W badS) := ⟨fun pins s σ H D I ⟨F, ρ, rel, q⟩ => q.elim⟩
end
end Vi

/-! Vi13: the law's own def; facts. -/
namespace Vi
open PySem PySem.Spec PyProof.Rows L2
def spLaw (K : PySem.W.Frag) : Sp := fun vs H Q E => ∃ (a : Addr) (ns : List Int), vs = [.ref a] ∧ ns.length ≤ 63 ∧ SqL K H a (ns.map V.int) ∧ ∀ H', Q (.bl true) H'
theorem mk_law {P : Program} {w : World} {K : PySem.W.Frag} {mg : Str → Option Value} {base : Heap} {S : Sg} {x qual y : Str} {params : Arguments} {body : List Stmt} {scope : Scope} {f : Addr} {fd : FuncData} {N : List Str} {k : Nat} {s : SS_}
    (F : FunD K x qual params body scope [] [] f fd) (sc : FnScope N [y] scope) (hK : S.K = K)
    (hb : ∀ (B : Bs) (cdv : Value) (A : Around) (outer : List Env) (st : Shared) (H : Hp) (E : XK), Room k (cxOf CX0 P w K mg base N qual scope f cdv A outer st H E).A →
      PassesOwn (model P w) (cxOf CX0 P w K mg base N qual scope f cdv A outer st H E).A (cxOf CX0 P w K mg base N qual scope f cdv A outer st H E).env (cxOf CX0 P w K mg base N qual scope f cdv A outer st H E).xe →
      PSs (cxOf CX0 P w K mg base N qual scope f cdv A outer st H E) body (tS S B W0 s))
    (hs : ∀ ns : List Int, ns.length ≤ 63 → runF N.length 1 s [.scr ns] = .ok (.bl true)) : FnOk P w K mg base CX0 (k + 1) f fd [y] (spLaw K) := by
  refine F.ok sc (fun vs H Q E h => by obtain ⟨a, ns, rfl, _⟩ := h; rfl) fun cdv A outer st H vs Q E hr h => ?_
  obtain ⟨a, ns, rfl, hl, hS, q⟩ := h
  have r : Reps S H [D.scr ns] [V.ref a] := reps_cons (by simp only [Rep]; exact ⟨a, rfl, by rw [hK]; exact hS⟩) reps_nil
  refine ⟨_, hb { F0 := H, H0 := H } cdv A outer st H E hr (passes_of rfl), H, _, start_rel (ps := [y]) (.refl _) r rfl, ?_⟩
  have hn := hs ns hl
  unfold runF at hn
  rw [if_pos (show [D.scr ns].length = 1 from rfl)] at hn
  show Post S { F0 := H, H0 := H } W0 H { nx := fun _ H' => Q .non H', rt := Q } (s (entry N.length 1 [.scr ns]))
  cases hh : s (entry N.length 1 [.scr ns]) with
  | rt d =>
    rw [hh] at hn
    cases hn
    intro v F' H' σ' ρ' _ rel r'
    rw [rep_bl_inv r']
    exact q H'
  | nx ρ' => rw [hh] at hn; cases hn
  | rn d => rw [hh] at hn; cases hn
  | er c ρ' => rw [hh] at hn; cases hn
  | bk ρ' => rw [hh] at hn; cases hn
  | ct ρ' => rw [hh] at hn; cases hn
  | bad => rw [hh] at hn; cases hn
/-- what the names reach in n steps, and the interpreter's own statics -/
def asV (g : Addr → Option Obj) (n : Nat) : List Addr := cStatics :: He.asD g n
abbrev AlV : Type := He.AlD × Bool
def obsV (n : Nat) (fa : List He.Fa) (fn : List He.DefD) (ex : PySem.W.Frag → Bool) (g : Addr → Option Obj) : AlV := (He.obsD fa fn (He.frG g (asV g n)), ex (He.frG g (asV g n)))
structure SaysV (fa : List He.Fa) (fn : List He.DefD) (ex : PySem.W.Frag → Bool) (K : PySem.W.Frag) : Prop where
  t : He.SaysD fa fn K
  more : ex K = true
def hookV (n : Nat) (fa : List He.Fa) (fn : List He.DefD) (ex : PySem.W.Frag → Bool) : PySem.W.Hook where
  α := AlV
  obs := fun s => obsV n fa fn ex s.heap.get?
  val := fun _ => (He.valD fn, true)
  says := fun _ h => ∃ K : PySem.W.Frag, K.In h ∧ SaysV fa fn ex K
  of := fun _ _ e => ⟨_, He.frG_in, congrArg (fun z : AlV => z.1) e, congrArg (fun z : AlV => z.2) e⟩
  keeps := fun _ _ _ ⟨K, hK, c⟩ k => ⟨K, PySem.W.Frag.In.keeps hK k, c⟩
theorem obsV_eq {n : Nat} {fa : List He.Fa} {fn : List He.DefD} {ex : PySem.W.Frag → Bool} {g : Addr → Option Obj} {s : Shared} (h : ∀ a, g a = s.heap.get? a) : obsV n fa fn ex g = (hookV n fa fn ex).obs s := by
  have e : g = s.heap.get? := funext h
  rw [e] <;> rfl
def clsB (K : PySem.W.Frag) (C : Addr) (f : Str) (a : Addr) : Bool := match PySem.W.findCls K (.ref C) (.type "type") f with
  | some (.val (.ref b)) => decide (b = a)
  | _ => false
theorem clsB_ok {K : PySem.W.Frag} {C a : Addr} {f : Str} (h : clsB K C f a = true) : PySem.W.findCls K (.ref C) (.type "type") f = some (.val (.ref a)) := by
  unfold clsB at h
  split at h
  · rename_i b e
    rw [e, of_decide_eq_true h]
  · cases h
theorem all_at {α : Type} {l : List (α → Bool)} {K : α} (h : (l.all fun g => g K) = true) (i : Nat) {g : α → Bool} (e : l[i]? = some g := by rfl) : g K = true := by
  obtain ⟨hi, e⟩ := List.getElem?_eq_some_iff.mp e
  exact List.all_eq_true.mp h g (e ▸ List.getElem_mem hi)
end Vi

/-! Vi14: combinators at a store, for simp; loops as folds. -/
namespace Vi
open PySem PySem.Spec PyProof.Rows L2
@[simp] theorem x_cD (d : D) (ρ : Store) : cD d ρ = .ok d := rfl
@[simp] theorem x_v0 (d : D) (r : Store) : vD 0 (.sh d :: r) = .ok d := rfl
@[simp] theorem x_vS (i : Nat) (s : Slot) (r : Store) : vD (i + 1) (s :: r) = vD i r := rfl
@[simp] theorem x_b0 (d : D) (r : Store) : bD 0 (.sh d :: r) = .ok d := rfl
@[simp] theorem x_b0l (xs : List D) (r : Store) : bD 0 (.ol xs :: r) = .ok (.lst xs) := rfl
@[simp] theorem x_b0d (ks : List Key) (xs : List D) (r : Store) : bD 0 (.od ks xs :: r) = .ok (.dct ks xs) := rfl
@[simp] theorem x_bS (i : Nat) (s : Slot) (r : Store) : bD (i + 1) (s :: r) = bD i r := rfl
@[simp] theorem x_bin (m : D → D → Option D) (f g : DE) (ρ : Store) : bin m f g ρ = (f ρ).bind fun d => (g ρ).bind fun e => .of (m d e) := rfl
@[simp] theorem x_un (m : D → Option D) (f : DE) (ρ : Store) : un m f ρ = (f ρ).bind fun d => .of (m d) := rfl
@[simp] theorem x_nilA (ρ : Store) : nilA ρ = .ok [] := rfl
@[simp] theorem x_consA (f : DE) (g : DA) (ρ : Store) : consA f g ρ = (f ρ).bind fun d => (g ρ).bind fun ds => .ok (d :: ds) := rfl
@[simp] theorem x_lstD (g : DA) (ρ : Store) : lstD g ρ = (g ρ).bind fun ds => if small ds.length = true then .ok (.lst ds) else .bad := rfl
@[simp] theorem x_tupD (g : DA) (ρ : Store) : tupD g ρ = (g ρ).bind fun ds => if small ds.length = true then .ok (.tup ds) else .bad := rfl
@[simp] theorem x_tV (f : DE) (ρ : Store) : tV f ρ = (f ρ).bind trD := rfl
@[simp] theorem x_trD (b : Bool) : trD (.bl b) = .ok b := rfl
@[simp] theorem x_andT (f g : DB) (ρ : Store) : andT f g ρ = (f ρ).bind fun b => match b with
  | true => g ρ
  | false => .ok false := rfl
@[simp] theorem x_orT (f g : DB) (ρ : Store) : orT f g ρ = (f ρ).bind fun b => match b with
  | true => .ok true
  | false => g ρ := rfl
@[simp] theorem x_notT (f : DB) (ρ : Store) : notT f ρ = (f ρ).bind fun b => .ok (!b) := rfl
@[simp] theorem x_yesT (ρ : Store) : yesT ρ = .ok true := rfl
@[simp] theorem x_seqS (s t : SS_) (ρ : Store) : seqS s t ρ = match s ρ with
  | .nx ρ' => t ρ'
  | o => o := rfl
@[simp] theorem x_skipS (ρ : Store) : skipS ρ = .nx ρ := rfl
@[simp] theorem x_retS (f : DE) (ρ : Store) : retS f ρ = (f ρ).then ρ fun d => .rt d := rfl
@[simp] theorem x_retNewS (f : DA) (ρ : Store) : retNewS f ρ = (f ρ).then ρ fun d => .rn d := rfl
@[simp] theorem x_ifS (c : DB) (s t : SS_) (ρ : Store) : ifS c s t ρ = (c ρ).then ρ fun b => match b with
  | true => s ρ
  | false => t ρ := rfl
@[simp] theorem x_asgS (t : Tg) (f : DE) (ρ : Store) : asgS t f ρ = (f ρ).then ρ fun d => match t.bind d ρ with
  | some ρ' => .nx ρ'
  | none => .bad := rfl
@[simp] theorem x_exprS (f : DE) (ρ : Store) : exprS f ρ = (f ρ).then ρ fun _ => .nx ρ := rfl
@[simp] theorem x_raiseS (c : Nat) (ρ : Store) : raiseS c ρ = .er c ρ := rfl
@[simp] theorem x_ownS (i : Nat) (g : DA) (ρ : Store) : ownS i g ρ = (g ρ).then ρ fun ds => if small ds.length = true then .nx (ρ.set i (.ol ds)) else .bad := rfl
@[simp] theorem x_ownNS (i : Nat) (g : DA) (ρ : Store) : ownNS i g ρ = (g ρ).then ρ fun ds => .nx (ρ.set i (.ol ds)) := rfl
@[simp] theorem x_ownDctS (i : Nat) (ρ : Store) : ownDctS i ρ = .nx (ρ.set i (.od [] [])) := rfl
@[simp] theorem x_forS (it : DA) (t : Tg) (body : SS_) (ρ : Store) : forS it t body ρ = (it ρ).then ρ fun ds => forL t body ds ρ := rfl
@[simp] theorem x_iterD (f : DE) (ρ : Store) : iterD f ρ = (f ρ).bind fun d => .of (itemsD d) := rfl
@[simp] theorem x_callD (sem : List D → R D) (g : DA) (ρ : Store) : callD sem g ρ = (g ρ).bind sem := rfl
@[simp] theorem x_callN (sem : List D → R (List D)) (g : DA) (ρ : Store) : callN sem g ρ = (g ρ).bind sem := rfl
@[simp] theorem x_lookD (sem : List D → R D) (g : DA) (ρ : Store) : lookD sem g ρ = (g ρ).bind fun ds => (sem ds).bind fun d => if d.flat = true then .ok d else .bad := rfl
@[simp] theorem x_items_l (xs : List D) : itemsD (.lst xs) = some xs := rfl
@[simp] theorem x_items_t (xs : List D) : itemsD (.tup xs) = some xs := rfl
@[simp] theorem x_items_s (ns : List Int) : itemsD (.scr ns) = some (ns.map .int) := rfl
@[simp] theorem x_bind_nm (i : Nat) (d : D) (ρ : Store) : (Tg.nm i).bind d ρ = some (ρ.set i (.sh d)) := rfl
@[simp] theorem x_small {n : Nat} (h : n ≤ 16000000) : small n = true := decide_eq_true h
/-- a for over the images of a list, as a fold of states of one's own -/
theorem forL_map {α β : Type} {t : Tg} {body : SS_} (e : α → D) (st : β → Store) (step : β → α → β)
    : ∀ (as : List α) (b : β), (∀ b a, a ∈ as → ∃ ρ1, t.bind (e a) (st b) = some ρ1 ∧ (body ρ1 = .nx (st (step b a)) ∨ body ρ1 = .ct (st (step b a)))) → forL t body (as.map e) (st b) = .nx (st (as.foldl step b))
  | [], b, _ => rfl
  | a :: as, b, h => by
    obtain ⟨ρ1, h1, h2⟩ := h b a List.mem_cons_self
    simp only [List.map_cons, forL, h1, List.foldl_cons]
    rcases h2 with h2 | h2 <;> (rw [h2]; exact forL_map e st step as (step b a) fun b a m => h b a (List.mem_cons_of_mem _ m))
/-- a comprehension, each item by a function -/
theorem lcL_map {α : Type} {t : Tg} {test : DB} {el : DE} {ρ : Store} (e : α → D) (p : α → Bool) (g : α → D) : ∀ as : List α,
    (∀ a ∈ as, ∃ ρ1, t.bind (e a) ρ = some ρ1 ∧ test ρ1 = .ok (p a) ∧ (p a = true → el ρ1 = .ok (g a))) → lcL t test el ρ (as.map e) = .ok ((as.filter p).map g)
  | [], _ => rfl
  | a :: as, h => by
    obtain ⟨ρ1, h1, h2, h3⟩ := h a List.mem_cons_self
    have ih := lcL_map e p g as fun a m => h a (List.mem_cons_of_mem _ m)
    simp only [List.map_cons, lcL, h1, h2]
    cases hp : p a with
    | true =>
      rw [h3 hp, ih]
      simp [R.calm, hp]
    | false =>
      rw [ih]
      simp [R.calm, hp]
end Vi

/-! Vi15: operators at plain data, for simp. -/
namespace Vi
open PySem PySem.Spec PyProof.Rows L2
theorem dec_iff {p q : Prop} [Decidable p] [Decidable q] (h : p ↔ q) : decide p = decide q := by
  by_cases hp : p
  · rw [decide_eq_true hp, decide_eq_true (h.mp hp)]
  · rw [decide_eq_false hp, decide_eq_false (fun z => hp (h.mpr z))]
@[simp] theorem eq_int (i j : Int) : oEq (.int i) (.int j) = some (.bl (decide (i = j))) := by
  unfold oEq
  rw [if_pos ⟨rfl, rfl, rfl⟩]
  exact congrArg (fun b => some (D.bl b)) (dec_iff ⟨fun h => by injection h, fun h => by rw [h]⟩)
@[simp] theorem eq_str (i j : Str) : oEq (.str i) (.str j) = some (.bl (decide (i = j))) := by
  unfold oEq
  rw [if_pos ⟨rfl, rfl, rfl⟩]
  exact congrArg (fun b => some (D.bl b)) (dec_iff ⟨fun h => by injection h, fun h => by rw [h]⟩)
@[simp] theorem ne_int (i j : Int) : oNe (.int i) (.int j) = some (.bl (!decide (i = j))) := by
  unfold oNe
  rw [if_pos ⟨rfl, rfl, rfl⟩]
  exact congrArg (fun b => some (D.bl (!b))) (dec_iff ⟨fun h => by injection h, fun h => by rw [h]⟩)
@[simp] theorem ne_str (i j : Str) : oNe (.str i) (.str j) = some (.bl (!decide (i = j))) := by
  unfold oNe
  rw [if_pos ⟨rfl, rfl, rfl⟩]
  exact congrArg (fun b => some (D.bl (!b))) (dec_iff ⟨fun h => by injection h, fun h => by rw [h]⟩)
@[simp] theorem lt_int (i j : Int) : oLt (.int i) (.int j) = some (.bl (decide (i < j))) := rfl
@[simp] theorem le_int (i j : Int) : oLe (.int i) (.int j) = some (.bl (decide (i ≤ j))) := rfl
@[simp] theorem gt_int (i j : Int) : oGt (.int i) (.int j) = some (.bl (decide (j < i))) := rfl
@[simp] theorem ge_int (i j : Int) : oGe (.int i) (.int j) = some (.bl (decide (j ≤ i))) := rfl
@[simp] theorem add_int (i j : Int) : oAdd (.int i) (.int j) = some (.int (i + j)) := rfl
@[simp] theorem sub_int (i j : Int) : oSub (.int i) (.int j) = some (.int (i - j)) := rfl
@[simp] theorem mod_int {i j : Int} (h : 0 < j) : oMod (.int i) (.int j) = some (.int (i % j)) := by
  unfold oMod i2
  simp [divOk, h]
theorem divOk_of {j : Int} (h : 0 < j) (h2 : j < 2 ^ 64) : divOk j = true := by
  have e : j.natAbs.log2 < 64 := (Nat.log2_lt (by omega)).mpr (by omega)
  unfold divOk
  simp only [Bool.and_eq_true, decide_eq_true_eq]
  exact ⟨h, by omega⟩
theorem div_int {i j : Int} (h : 0 < j) (h2 : j < 2 ^ 64) : oDiv (.int i) (.int j) = some (.int (i / j)) := by
  unfold oDiv i2
  simp [divOk_of h h2]
theorem add_lst {xs ys : List D} (h : xs.length + ys.length ≤ 16000000) : oAdd (.lst xs) (.lst ys) = some (.lst (xs ++ ys)) := by
  unfold oAdd
  simp [small, h]
theorem flatL_int (xs : List Int) : flatL (xs.map D.int) = true := by
  unfold flatL
  simp [D.flat, D.fv, flatV]
theorem flatL_str (xs : List Str) : flatL (xs.map D.str) = true := by
  unfold flatL
  simp [D.flat, D.fv, flatV]
theorem memD_int (i : Int) (xs : List Int) : memD (.int i) (xs.map D.int) = decide (i ∈ xs) := by
  unfold memD inV
  induction xs with
  | nil => simp
  | cons x xs ih =>
    simp only [List.map_cons, List.any_cons, List.map_map] at ih ⊢
    rw [ih]
    by_cases h : x = i
    · subst h; simp [D.fv, eqV]
    · have h' : ¬ i = x := fun z => h z.symm
      simp [D.fv, eqV, h, h']
theorem memD_str (i : Str) (xs : List Str) : memD (.str i) (xs.map D.str) = decide (i ∈ xs) := by
  unfold memD inV
  induction xs with
  | nil => simp
  | cons x xs ih =>
    simp only [List.map_cons, List.any_cons, List.map_map] at ih ⊢
    rw [ih]
    by_cases h : x = i
    · subst h; simp [D.fv, eqV]
    · have h' : ¬ i = x := fun z => h z.symm
      simp [D.fv, eqV, h, h']
@[simp] theorem in_ints (i : Int) (xs : List Int) : oIn (.int i) (.lst (xs.map D.int)) = some (.bl (decide (i ∈ xs))) := by
  show Option.map D.bl (if (D.flat (.int i) && flatV (D.fv (.int i)) && flatL (xs.map D.int)) = true then some (memD (.int i) (xs.map D.int)) else none) = _
  rw [flatL_int, memD_int]
  rfl
@[simp] theorem in_strs (i : Str) (xs : List Str) : oIn (.str i) (.lst (xs.map D.str)) = some (.bl (decide (i ∈ xs))) := by
  show Option.map D.bl (if (D.flat (.str i) && flatV (D.fv (.str i)) && flatL (xs.map D.str)) = true then some (memD (.str i) (xs.map D.str)) else none) = _
  rw [flatL_str, memD_str]
  rfl
@[simp] theorem notIn_ints (i : Int) (xs : List Int) : oNotIn (.int i) (.lst (xs.map D.int)) = some (.bl (!decide (i ∈ xs))) := by
  show Option.map (fun b => D.bl !b) (if (D.flat (.int i) && flatV (D.fv (.int i)) && flatL (xs.map D.int)) = true then some (memD (.int i) (xs.map D.int)) else none) = _
  rw [flatL_int, memD_int]
  rfl
@[simp] theorem notIn_strs (i : Str) (xs : List Str) : oNotIn (.str i) (.lst (xs.map D.str)) = some (.bl (!decide (i ∈ xs))) := by
  show Option.map (fun b => D.bl !b) (if (D.flat (.str i) && flatV (D.fv (.str i)) && flatL (xs.map D.str)) = true then some (memD (.str i) (xs.map D.str)) else none) = _
  rw [flatL_str, memD_str]
  rfl
@[simp] theorem len_lst (xs : List D) : lenD (.lst xs) = some (.int xs.length) := rfl
@[simp] theorem len_scr (xs : List Int) : lenD (.scr xs) = some (.int xs.length) := rfl
@[simp] theorem list_lst (xs : List D) : listD (.lst xs) = some (.lst xs) := rfl
theorem ixN_nat {n i : Nat} (h : i < n) : ixN n (i : Int) = some i := by
  unfold ixN
  rw [if_pos (by omega), if_pos (by omega)]
  simp
theorem sub_lst {xs : List D} {i : Nat} {d : D} (h : xs[i]? = some d) : subD (.lst xs) (.int (i : Int)) = some d := by
  have hl := (List.getElem?_eq_some_iff.mp h).1
  show atI xs (i : Int) = some d
  unfold atI
  rw [ixN_nat hl]
  exact h
theorem sub_tup {xs : List D} {i : Nat} {d : D} (h : xs[i]? = some d) : subD (.tup xs) (.int (i : Int)) = some d := by
  have hl := (List.getElem?_eq_some_iff.mp h).1
  show atI xs (i : Int) = some d
  unfold atI
  rw [ixN_nat hl]
  exact h
theorem sub_scr {ns : List Int} {i : Nat} {d : Int} (h : ns[i]? = some d) : subD (.scr ns) (.int (i : Int)) = some (.int d) := by
  have hl := (List.getElem?_eq_some_iff.mp h).1
  show (atI ns (i : Int)).map D.int = some (.int d)
  unfold atI
  rw [ixN_nat hl]
  show (ns[i]?).map D.int = _
  rw [h]
  rfl
mutual
theorem lay_mono : ∀ {k j : Nat} {d : D}, k ≤ j → D.lay k d = true → D.lay j d = true
  | _, _, .non, _, _ => by simp [D.lay]
  | _, _, .bl _, _, _ => by simp [D.lay]
  | _, _, .int _, _, _ => by simp [D.lay]
  | _, _, .str _, _, h => by simpa [D.lay] using h
  | 0, _, .lst _, _, h => by simp [D.lay] at h
  | 0, _, .tup _, _, h => by simp [D.lay] at h
  | 0, _, .scr _, _, h => by simp [D.lay] at h
  | k + 1, 0, _, h, _ => by omega
  | k + 1, j + 1, .lst xs, h, q => by simp only [D.lay] at q ⊢; exact lays_mono (by omega) q
  | k + 1, j + 1, .tup xs, h, q => by simp only [D.lay] at q ⊢; exact lays_mono (by omega) q
  | k + 1, j + 1, .scr xs, h, q => by simp [D.lay]
  | k, j, .dct _ _, h, q => by cases k <;> simp [D.lay] at q
  | k, j, .obj _ _, h, q => by cases k <;> simp [D.lay] at q
theorem lays_mono : ∀ {k j : Nat} {d : List D}, k ≤ j → D.lays k d = true → D.lays j d = true
  | _, _, [], _, _ => by simp [D.lays]
  | k, j, x :: xs, h, q => by
    simp only [D.lays, Bool.and_eq_true] at q ⊢
    exact ⟨lay_mono h q.1, lays_mono h q.2⟩
end
theorem lays_str {k : Nat} : ∀ {xs : List Str}, (∀ x ∈ xs, PyData.strOk x = true) → D.lays k (xs.map D.str) = true
  | [], _ => by simp [D.lays]
  | x :: xs, h => by
    simp only [List.map_cons, D.lays, Bool.and_eq_true]
    exact ⟨by simp only [D.lay]; exact h x List.mem_cons_self, lays_str fun y hy => h y (List.mem_cons_of_mem _ hy)⟩
end Vi
namespace Vi
open PySem PySem.Spec PyProof.Rows L2
theorem runF_of {N n : Nat} {s : SS_} {ds : List D} {d : D} (hl : ds.length = n) (ρ : Store) (he : entry N n ds = ρ) (h : s ρ = .rt d) : runF N n s ds = .ok d := by
  unfold runF
  rw [if_pos hl, he, h]
theorem runF_nx {N n : Nat} {s : SS_} {ds : List D} {ρ' : Store} (hl : ds.length = n) (ρ : Store) (he : entry N n ds = ρ) (h : s ρ = .nx ρ') : runF N n s ds = .ok .non := by
  unfold runF
  rw [if_pos hl, he, h]
theorem runF_er {N n : Nat} {s : SS_} {ds : List D} {c : Nat} {ρ' : Store} (hl : ds.length = n) (ρ : Store) (he : entry N n ds = ρ) (h : s ρ = .er c ρ') : runF N n s ds = .er c := by
  unfold runF
  rw [if_pos hl, he, h]
theorem runN_of {N n : Nat} {s : SS_} {ds xs : List D} (hl : ds.length = n) (ρ : Store) (he : entry N n ds = ρ) (h : s ρ = .rn xs) : runN N n s ds = .ok xs := by
  unfold runN
  rw [if_pos hl, he, h]
theorem runN_er {N n : Nat} {s : SS_} {ds : List D} {c : Nat} {ρ' : Store} (hl : ds.length = n) (ρ : Store) (he : entry N n ds = ρ) (h : s ρ = .er c ρ') : runN N n s ds = .er c := by
  unfold runN
  rw [if_pos hl, he, h]
theorem runI_of {N n c : Nat} {s : SS_} {fs ds fs' : List D} {r : Store} (hl : ds.length = n) (ρ : Store) (he : entry (N - 1) n ds = ρ) (h : s (.oo c fs :: ρ) = .nx (.oo c fs' :: r)) : runI N n s c fs ds = .ok fs' := by
  unfold runI
  rw [if_pos hl, he, h]
  simp
theorem runI_er {N n c cc : Nat} {s : SS_} {fs ds : List D} {ρ' : Store} (hl : ds.length = n) (ρ : Store) (he : entry (N - 1) n ds = ρ) (h : s (.oo c fs :: ρ) = .er cc ρ') : runI N n s c fs ds = .er cc := by
  unfold runI
  rw [if_pos hl, he, h]
end Vi
namespace Vi
open PySem PySem.Spec PyProof.Rows L2
theorem seq_nx {s t : SS_} {ρ : Store} (ρ' : Store) (h : s ρ = .nx ρ') : seqS s t ρ = t ρ' := by
  rw [x_seqS, h]
theorem seq_rt {s t : SS_} {ρ : Store} {d : D} (h : s ρ = .rt d) : seqS s t ρ = .rt d := by
  rw [x_seqS, h]
theorem seq_er {s t : SS_} {ρ ρ' : Store} {c : Nat} (h : s ρ = .er c ρ') : seqS s t ρ = .er c ρ' := by
  rw [x_seqS, h]
theorem asg_ok {i : Nat} {f : DE} {ρ : Store} {d : D} (ρ' : Store) (h : f ρ = .ok d) (e : ρ.set i (.sh d) = ρ') : asgS (.nm i) f ρ = .nx ρ' := by
  rw [x_asgS, h, then_ok, x_bind_nm, e]
theorem for_ok {it : DA} {t : Tg} {b : SS_} {ρ : Store} {ds : List D} (h : it ρ = .ok ds) : forS it t b ρ = forL t b ds ρ := by
  rw [x_forS, h, then_ok]
theorem if_ok {c : DB} {s t : SS_} {ρ : Store} {b : Bool} (h : c ρ = .ok b) : ifS c s t ρ = if b = true then s ρ else t ρ := by
  rw [x_ifS, h, then_ok]
  cases b <;> rfl
theorem ret_ok {f : DE} {ρ : Store} {d : D} (h : f ρ = .ok d) : retS f ρ = .rt d := by
  rw [x_retS, h, then_ok]
theorem lc_ok {it : DA} {t : Tg} {test : DB} {el : DE} {vs : List Nat} {ρ : Store} {ds ys : List D} (h : it ρ = .ok ds) (hz : ds.length ≤ 16000000) (hl : lcL t test el (wipeS ρ vs) ds = .ok ys) : lcD it t test el vs ρ = .ok (.lst ys) := by
  unfold lcD
  rw [h, bind_ok, if_pos (x_small hz), hl, bind_ok]
theorem ownLc_ok {i : Nat} {f : DE} {ρ : Store} {xs : List D} (ρ' : Store) (h : f ρ = .ok (.lst xs)) (e : ρ.set i (.ol xs) = ρ') : ownLcS i f ρ = .nx ρ' := by
  unfold ownLcS
  rw [h, then_ok, ← e]
theorem upto_nat0 (n : Nat) : upto 0 n = (List.range' 0 n).map fun (k : Nat) => D.int (k : Int) := by
  unfold upto
  rw [List.range'_eq_map_range, List.map_map]
  apply List.map_congr_left
  intro i _
  simp
theorem rng1_ok {f : DE} {ρ : Store} {n : Nat} (h : f ρ = .ok (.int n)) (hn : n ≤ 1000000) : rng1 f ρ = .ok ((List.range' 0 n).map fun (k : Nat) => D.int (k : Int)) := by
  have i1 : inr62 (n : Int) = true := by
    unfold inr62
    exact decide_eq_true ⟨by omega, by omega⟩
  unfold rng1
  rw [h, bind_ok]
  show (if inr62 (n : Int) = true then R.ok (upto 0 (n : Int).toNat) else .bad) = _
  rw [if_pos i1]
  have e := upto_nat0 n
  rw [Int.toNat_natCast, e]
theorem rng2_ok {f g : DE} {ρ : Store} {m n : Nat} (h : f ρ = .ok (.int m)) (h2 : g ρ = .ok (.int n)) (hm : m ≤ 1000000) (hn : n ≤ 1000000) : rng2 f g ρ = .ok ((List.range' m (n - m)).map fun (k : Nat) => D.int (k : Int)) := by
  have i1 : inr62 (n : Int) = true := by
    unfold inr62
    exact decide_eq_true ⟨by omega, by omega⟩
  have i2 : inr62 (m : Int) = true := by
    unfold inr62
    exact decide_eq_true ⟨by omega, by omega⟩
  unfold rng2
  rw [h, bind_ok, h2, bind_ok]
  show (if (inr62 (m : Int) && inr62 (n : Int)) = true then R.ok (upto m ((n : Int) - m).toNat) else .bad) = _
  rw [i1, i2, if_pos (by rfl), show ((n : Int) - m).toNat = n - m by omega]
  unfold upto
  rw [List.range'_eq_map_range, List.map_map]
  refine congrArg R.ok (List.map_congr_left fun i _ => ?_)
  simp
theorem filt_true {α : Type} (l : List α) : l.filter (fun _ => true) = l := by simp
end Vi
namespace Vi
open PySem PySem.Spec PyProof.Rows L2
theorem forL_ix {α β : Type} {t : Tg} {body : SS_} (e : α → D) (st : β → Store) (step : β → α → β) (P : Nat → β → Prop) (M : Nat)
    : ∀ (as : List α) (b : β) (i : Nat), i + as.length ≤ M → P i b → (∀ i b a, a ∈ as → i < M → P i b → P (i + 1) (step b a) ∧ ∃ ρ1, t.bind (e a) (st b) = some ρ1 ∧ (body ρ1 = .nx (st (step b a)) ∨ body ρ1 = .ct (st (step b a)))) →
      forL t body (as.map e) (st b) = .nx (st (as.foldl step b)) ∧ P (i + as.length) (as.foldl step b)
  | [], b, i, _, p, _ => ⟨rfl, p⟩
  | a :: as, b, i, hM, p, h => by
    rw [List.length_cons] at hM
    obtain ⟨p1, ρ1, h1, h2⟩ := h i b a List.mem_cons_self (by omega) p
    obtain ⟨e1, e2⟩ := forL_ix e st step P M as (step b a) (i + 1) (by omega) p1 fun i b a m => h i b a (List.mem_cons_of_mem _ m)
    refine ⟨?_, by rw [List.length_cons, show i + (as.length + 1) = i + 1 + as.length by omega]; exact e2⟩
    simp only [List.map_cons, forL, h1, List.foldl_cons]
    rcases h2 with h2 | h2 <;> (rw [h2]; exact e1)
theorem app_ok {i : Nat} {f : DE} {ρ : Store} {xs : List D} {d : D} (ρ' : Store) (hi : ρ[i]? = some (.ol xs)) (h : f ρ = .ok d) (hl : xs.length + 1 ≤ 16000000) (e : ρ.set i (.ol (xs ++ [d])) = ρ') : appS i f ρ = .nx ρ' := by
  unfold appS
  rw [hi]
  show (f ρ).then ρ _ = _
  rw [h, then_ok, if_pos (x_small hl), e]
theorem frz_ret {i : Nat} {ρ : Store} {xs : List D} (hi : ρ[i]? = some (.ol xs)) : frzS [i] (retS (vD i)) ρ = .rt (.lst xs) := by
  have hl := (List.getElem?_eq_some_iff.mp hi).1
  unfold frzS freeze
  simp only [List.foldl_cons, List.foldl_nil, hi]
  refine ret_ok ?_
  unfold vD
  rw [List.getElem?_set_self hl]
end Vi
namespace Vi
open PySem PySem.Spec PyProof.Rows L2
theorem mkD_ok {c nf n : Nat} {sem : ISem} {g : DA} {ρ : Store} {ds fs : List D} (hg : g ρ = .ok ds) (hn : ds.length = n) (hs : sem c [] ds = .ok fs) (hf : fs.length = nf) : mkD c nf sem n g ρ = .ok (.obj c fs) := by
  unfold mkD
  rw [hg, bind_ok, if_pos hn, hs, bind_ok, if_pos hf]
theorem mkD_er {c nf n cc : Nat} {sem : ISem} {g : DA} {ρ : Store} {ds : List D} (hg : g ρ = .ok ds) (hn : ds.length = n) (hs : sem c [] ds = .er cc) : mkD c nf sem n g ρ = .er cc := by
  unfold mkD
  rw [hg, bind_ok, if_pos hn, hs, bind_er]
theorem consA_ok {f : DE} {g : DA} {ρ : Store} {d : D} {ds : List D} (h1 : f ρ = .ok d) (h2 : g ρ = .ok ds) : consA f g ρ = .ok (d :: ds) := by
  rw [x_consA, h1, bind_ok, h2, bind_ok]
theorem call_ok {n : Nat} {sem : List D → R D} {g : DA} {ρ : Store} {ds : List D} {r : R D} (h1 : g ρ = .ok ds) (hn : ds.length = n) (h2 : sem ds = r) : callD (gd n sem) g ρ = r := by
  rw [x_callD, h1, bind_ok]
  show (if ds.length = n then sem ds else .bad) = r
  rw [if_pos hn, h2]
theorem look_ok {n : Nat} {sem : List D → R D} {g : DA} {ρ : Store} {ds : List D} {d : D} (h1 : g ρ = .ok ds) (hn : ds.length = n) (h2 : sem ds = .ok d) (hf : d.flat = true) : lookD (gd n sem) g ρ = .ok d := by
  rw [x_lookD, h1, bind_ok]
  show ((if ds.length = n then sem ds else .bad).bind fun d => if d.flat = true then .ok d else .bad) = _
  rw [if_pos hn, h2, bind_ok, if_pos hf]
theorem bin_ok {m : D → D → Option D} {f g : DE} {ρ : Store} {d e z : D} (h1 : f ρ = .ok d) (h2 : g ρ = .ok e) (h3 : m d e = some z) : bin m f g ρ = .ok z := by
  rw [x_bin, h1, bind_ok, h2, bind_ok, h3, of_some]
theorem un_ok {m : D → Option D} {f : DE} {ρ : Store} {d z : D} (h1 : f ρ = .ok d) (h3 : m d = some z) : un m f ρ = .ok z := by
  rw [x_un, h1, bind_ok, h3, of_some]
theorem tV_ok {f : DE} {ρ : Store} {b : Bool} (h : f ρ = .ok (.bl b)) : tV f ρ = .ok b := by
  rw [x_tV, h, bind_ok, x_trD]
theorem expr_ok {f : DE} {ρ : Store} {d : D} (h : f ρ = .ok d) : exprS f ρ = .nx ρ := by
  rw [x_exprS, h, then_ok]
theorem expr_er {f : DE} {ρ : Store} {c : Nat} (h : f ρ = .er c) : exprS f ρ = .er c ρ := by
  rw [x_exprS, h, then_er]
end Vi
namespace Vi
open PySem PySem.Spec PyProof.Rows L2
theorem notT_ok {f : DB} {ρ : Store} {b : Bool} (h : f ρ = .ok b) : notT f ρ = .ok (!b) := by
  rw [x_notT, h, bind_ok]
theorem andT_ok {f g : DB} {ρ : Store} {a b : Bool} (h : f ρ = .ok a) (h2 : a = true → g ρ = .ok b) : andT f g ρ = .ok (a && b) := by
  rw [x_andT, h, bind_ok]
  cases a with
  | true => exact h2 rfl
  | false => rfl
theorem orT_ok {f g : DB} {ρ : Store} {a b : Bool} (h : f ρ = .ok a) (h2 : a = false → g ρ = .ok b) : orT f g ρ = .ok (a || b) := by
  rw [x_orT, h, bind_ok]
  cases a with
  | true => rfl
  | false => exact h2 rfl
end Vi

set_option maxHeartbeats 4000000
namespace Vi
open PySem PySem.Spec PyProof.Rows L2
def cnT : Nat → Str
  | 0 => "TableError"
  | 1 => "BadName"
  | 2 => "BadDomain"
  | 3 => "BadWay"
  | 4 => "BadRow"
  | 5 => "TooMany"
  | 6 => "TooFine"
  | 7 => "Outside"
  | 8 => "Domain"
  | 9 => "Numbers"
  | 10 => "Words"
  | 11 => "Way"
  | 12 => "First"
  | 13 => "Only"
  | 14 => "Like"
  | 15 => "Low"
  | 16 => "High"
  | 17 => "Sum"
  | 18 => "Table"
  | 19 => "Purse"
  | 20 => "Unlike"
  | 21 => "Hole"
  | 22 => "Clash"
  | 23 => "Ring"
  | 24 => "Book"
  | 25 => "NoTable"
  | 26 => "BadNumber"
  | 27 => "BadCell"
  | 28 => "BadLine"
  | 29 => "NoFact"
  | _ => ""
def flT : Nat → List Str
  | 8 => ["low", "high"]
  | 9 => ["low", "high"]
  | 10 => ["low", "high", "words"]
  | 11 => ["called"]
  | 12 => ["called"]
  | 13 => ["called"]
  | 14 => ["called"]
  | 15 => ["called"]
  | 16 => ["called"]
  | 17 => ["called"]
  | 18 => ["name", "names", "domains", "outcome", "way", "rows"]
  | 19 => ["form", "marks", "prices", "paid", "said"]
  | 24 => ["facts", "tables"]
  | _ => []
@[reducible] def SG (K : PySem.W.Frag) : Sg := ⟨K, cnT, flT⟩
def s__law_asked : SS_ :=
  (seqS (asgS (.nm 4) (orV (bin oEq (bD 3) (cD (.int 1))) (andV (bin oEq (bD 3) (cD (.int 2))) (bin oEq (bin oMod (bin oDiv (bin oDiv (vD 0) (vD 2)) (vD 2)) (cD (.int 5))) (cD (.int 0))))))
  (seqS (ownS 5 nilA)
  (seqS (forS (rng1 (cD (.int 3))) (.nm 6)
   (seqS (asgS (.nm 7) (bin oMod (vD 0) (vD 2)))
   (seqS (asgS (.nm 0) (bin oDiv (vD 0) (vD 2)))
   (ifS (andT (tV (bin oNe (bD 7) (bD 1))) (andT (tV (bin oNotIn (bD 7) (bD 5))) (orT (tV (bin oLt (vD 7) (vD 1))) (tV (vD 4)))))
    (appS 5 (vD 7))
    skipS))))
  (frzS [5] (retS (vD 5))))))
def f__law_asked : List D → R D := runF 8 4 s__law_asked
def s__law_at : SS_ :=
  (seqS (ifS (tV (bin oLt (vD 1) (un lenD (bD 0))))
   (retS (bin subD (bD 0) (vD 1)))
   skipS)
  (retS (cD (.int 0))))
def f__law_at : List D → R D := runF 2 2 s__law_at
def s__law_folded : SS_ :=
  (seqS (ownLcS 2 (lcD (rng1 (vD 1)) (.nm 3) yesT (cD (.int 0)) [3]))
  (seqS (forS (rng2 (cD (.int 1)) (un lenD (bD 0))) (.nm 3)
   (seqS (asgS (.nm 4) (bin oAdd (bin oMul2 (bin subD (bD 2) (bin oMod (vD 3) (vD 1))) (cD (.int 10007))) (bin oMod (bin subD (bD 0) (vD 3)) (bin oPow (cD (.int 10)) (cD (.int 12))))))
   (setIxS 2 (bin oMod (vD 3) (vD 1)) (bin oMod (vD 4) (bin oPow (cD (.int 10)) (cD (.int 18)))))))
  (frzS [2] (retS (vD 2)))))
def f__law_folded : List D → R D := runF 5 2 s__law_folded
def s__law_names : SS_ :=
  (seqS (asgS (.nm 1) (cD (.str "qwertyuiopas")))
  (retS (lcD (rng1 (vD 0)) (.nm 2) yesT (bin oAdd (bin oAdd (bin subD (lstD (consA (cD (.str "x")) (consA (cD (.str "")) (consA (cD (.str "xx")) nilA)))) (bin oMod (vD 2) (cD (.int 3)))) (bin subD (bD 1) (vD 2))) (bin subD (lstD (consA (cD (.str "")) (consA (cD (.str "b")) (consA (cD (.str "by")) nilA)))) (bin oDiv (vD 2) (cD (.int 4))))) [2])))
def f__law_names : List D → R D := runF 3 1 s__law_names
def s_Domain___init__ : SS_ :=
  (seqS (setFS 0 [9, 10] 0 (vD 1))
  (setFS 0 [9, 10] 1 (vD 2)))
def i_Domain : ISem := runI 3 2 s_Domain___init__
def s_Numbers___init__ : SS_ :=
  (seqS (ifS (tV (bin oGt (vD 1) (vD 2)))
   (raiseS 2)
   skipS)
  (initS 0 2 i_Domain (consA (vD 1) (consA (vD 2) nilA))))
def i_Numbers : ISem := runI 3 2 s_Numbers___init__
def s_is_word : SS_ :=
  (seqS (ifS (orT (tV (bin oEq (bD 0) (cD (.str "not")))) (notT (tV (chain oLe oLe (cD (.int 1)) (un lenD (bD 0)) (cD (.int 12))))))
   (retS (cD (.bl false)))
   skipS)
  (retS (un allD (lcD (iterD (vD 0)) (.nm 1) yesT (bin oIn (bD 1) (cD (.str "abcdefghijklmnopqrstuvwxyz"))) [1]))))
def f_is_word : List D → R D := runF 2 1 s_is_word
def s_look_at_names : SS_ :=
  (seqS (ownS 2 (consA (vD 0) nilA))
  (seqS (ifS (notT (tV (callD (gd 1 f_is_word) (consA (vD 0) nilA))))
   (raiseS 1)
   skipS)
  (forS (iterD (vD 1)) (.nm 3)
   (seqS (ifS (orT (notT (tV (callD (gd 1 f_is_word) (consA (vD 3) nilA)))) (tV (bin oIn (bD 3) (bD 2))))
    (raiseS 1)
    skipS)
   (appS 2 (vD 3))))))
def f_look_at_names : List D → R D := runF 4 2 s_look_at_names
def s_look_at_row : SS_ :=
  (seqS (asgS (.nm 3) (bin subD (bD 2) (cD (.int 0))))
  (seqS (ifS (tV (bin oNe (un lenD (bD 3)) (un lenD (bD 0))))
   (raiseS 4)
   skipS)
  (seqS (forS (zipD (vD 3) (vD 0)) (.tp [4, 5])
   (forS (iterD (vD 4)) (.tp [6, 7])
    (ifS (orT (tV (bin oLt (vD 6) (un (fldD [9, 10] 0) (vD 5)))) (tV (bin oGt (vD 7) (un (fldD [9, 10] 1) (vD 5)))))
     (raiseS 4)
     skipS)))
  (ifS (orT (tV (bin oLt (bin subD (bD 2) (cD (.int 1))) (un (fldD [9, 10] 0) (vD 1)))) (tV (bin oGt (bin subD (bD 2) (cD (.int 1))) (un (fldD [9, 10] 1) (vD 1)))))
   (raiseS 4)
   skipS))))
def f_look_at_row : List D → R D := runF 8 3 s_look_at_row
def s_own_rows : SS_ :=
  (seqS (ownS 1 nilA)
  (seqS (forS (iterD (vD 0)) (.tp [2, 3])
   (appS 1 (tupD (consA (lcD (iterD (vD 2)) (.nm 4) yesT (un listD (bD 4)) [4]) (consA (vD 3) nilA)))))
  (frzS [1] (retS (vD 1)))))
def f_own_rows : List D → R D := runF 5 1 s_own_rows
def s_Way___init__ : SS_ :=
  (setFS 0 [12, 13, 14, 15, 16, 17] 0 (vD 1))
def i_Way : ISem := runI 2 1 s_Way___init__
def s_First___init__ : SS_ :=
  (initS 0 1 i_Way (consA (cD (.str "first")) nilA))
def i_First : ISem := runI 1 0 s_First___init__
def s_High___init__ : SS_ :=
  (initS 0 1 i_Way (consA (cD (.str "high")) nilA))
def i_High : ISem := runI 1 0 s_High___init__
def s_Like___init__ : SS_ :=
  (initS 0 1 i_Way (consA (cD (.str "like")) nilA))
def i_Like : ISem := runI 1 0 s_Like___init__
def s_Low___init__ : SS_ :=
  (initS 0 1 i_Way (consA (cD (.str "low")) nilA))
def i_Low : ISem := runI 1 0 s_Low___init__
def s_Only___init__ : SS_ :=
  (initS 0 1 i_Way (consA (cD (.str "only")) nilA))
def i_Only : ISem := runI 1 0 s_Only___init__
def s_Sum___init__ : SS_ :=
  (initS 0 1 i_Way (consA (cD (.str "sum")) nilA))
def i_Sum : ISem := runI 1 0 s_Sum___init__
def s_way_by : SS_ :=
  (seqS (ifS (tV (bin oEq (bD 0) (cD (.str "first"))))
   (retS (mkD 12 1 i_First 0 nilA))
   skipS)
  (seqS (ifS (tV (bin oEq (bD 0) (cD (.str "only"))))
   (retS (mkD 13 1 i_Only 0 nilA))
   skipS)
  (seqS (ifS (tV (bin oEq (bD 0) (cD (.str "like"))))
   (retS (mkD 14 1 i_Like 0 nilA))
   skipS)
  (seqS (ifS (tV (bin oEq (bD 0) (cD (.str "low"))))
   (retS (mkD 15 1 i_Low 0 nilA))
   skipS)
  (seqS (ifS (tV (bin oEq (bD 0) (cD (.str "high"))))
   (retS (mkD 16 1 i_High 0 nilA))
   skipS)
  (seqS (ifS (tV (bin oEq (bD 0) (cD (.str "sum"))))
   (retS (mkD 17 1 i_Sum 0 nilA))
   skipS)
  (raiseS 3)))))))
def f_way_by : List D → R D := runF 1 1 s_way_by
def s_Table___init__ : SS_ :=
  (seqS (exprS (callD (gd 2 f_look_at_names) (consA (vD 1) (consA (vD 2) nilA))))
  (seqS (ifS (orT (tV (bin oEq (un lenD (bD 2)) (cD (.int 0)))) (orT (tV (bin oGt (un lenD (bD 2)) (cD (.int 4)))) (tV (bin oGt (un lenD (bD 6)) (cD (.int 200))))))
   (raiseS 5)
   skipS)
  (seqS (exprS (callD (gd 1 f_way_by) (consA (vD 5) nilA)))
  (seqS (ifS (andT (tV (bin oEq (bD 5) (cD (.str "sum")))) (tV (isiD [(17, false), (18, true)] (bD 4))))
   (raiseS 3)
   skipS)
  (seqS (forS (iterD (vD 6)) (.nm 7)
   (exprS (callD (gd 3 f_look_at_row) (consA (vD 3) (consA (vD 4) (consA (vD 7) nilA))))))
  (seqS (setFS 0 [18] 0 (vD 1))
  (seqS (setFS 0 [18] 1 (un listD (bD 2)))
  (seqS (setFS 0 [18] 2 (un listD (bD 3)))
  (seqS (setFS 0 [18] 3 (vD 4))
  (seqS (setFS 0 [18] 4 (vD 5))
  (setFS 0 [18] 5 (callD (gd 1 f_own_rows) (consA (vD 6) nilA)))))))))))))
def i_Table : ISem := runI 8 6 s_Table___init__
def s__law_net_table : SS_ :=
  (seqS (asgS (.nm 3) (mkD 9 2 i_Numbers 2 (consA (cD (.int 0)) (consA (bin oAdd (cD (.int 9)) (vD 2)) nilA))))
  (seqS (asgS (.nm 4) (lcD (rng1 (cD (.int 2))) (.nm 5) yesT (tupD (consA (lcD (iterD (vD 1)) (.nm 6) yesT (lstD (consA (tupD (consA (vD 5) (consA (bin oAdd (vD 5) (cD (.int 1))) nilA))) nilA)) [6]) (consA (bin oSub (cD (.int 9)) (vD 5)) nilA))) [5]))
  (retS (mkD 18 6 i_Table 6 (consA (vD 0) (consA (vD 1) (consA (lcD (iterD (vD 1)) (.nm 6) yesT (mkD 9 2 i_Numbers 2 (consA (cD (.int 0)) (consA (bin oAdd (cD (.int 9)) (vD 2)) nilA))) [6]) (consA (vD 3) (consA (cD (.str "first")) (consA (vD 4) nilA))))))))))
def f__law_net_table : List D → R D := runF 7 3 s__law_net_table
def s_table_of : SS_ :=
  (seqS (forS (iterD (un (fldD [24] 1) (vD 0))) (.nm 2)
   (ifS (tV (bin oEq (un (fldD [18] 0) (vD 2)) (bD 1)))
    (retS (vD 2))
    skipS))
  (raiseS 25))
def f_table_of : List D → R D := runF 3 2 s_table_of
def s_asks : SS_ :=
  (seqS (asgS (.nm 2) (lcD (iterD (un (fldD [24] 1) (vD 0))) (.nm 3) yesT (un (fldD [18] 0) (vD 3)) [3]))
  (retS (lcD (iterD (un (fldD [18] 1) (callD (gd 2 f_table_of) (consA (vD 0) (consA (vD 1) nilA))))) (.nm 4) (tV (bin oIn (bD 4) (bD 2))) (vD 4) [4])))
def f_asks : List D → R D := runF 5 2 s_asks
def s_gathered (rec : List D → R D) : SS_ :=
  (seqS (ifS (tV (bin oIn (bD 1) (bD 2)))
   (retS (vD 2))
   skipS)
  (seqS (forS (iterD (callD (gd 2 f_asks) (consA (vD 0) (consA (vD 1) nilA)))) (.nm 3)
   (asgS (.nm 2) (callD (gd 3 rec) (consA (vD 0) (consA (vD 3) (consA (vD 2) nilA))))))
  (retS (bin oAdd (vD 2) (lstD (consA (vD 1) nilA))))))
def f_gathered : Nat → List D → R D
  | 0 => runF 4 3 badS
  | k + 1 => runF 4 3 (s_gathered (f_gathered k))
def s_order_of : SS_ :=
  (retS (callD (gd 3 (f_gathered 40)) (consA (vD 0) (consA (vD 1) (consA (lstD nilA) nilA)))))
def f_order_of : List D → R D := runF 2 2 s_order_of
def s__law_no_table : SS_ :=
  (seqS (asgS (.nm 2) (cD (.bl false)))
  (seqS (tryS [(0, false), (1, false), (2, false), (3, false), (4, false), (5, false), (7, false), (20, false), (25, true), (23, false)]
   (exprS (callD (gd 2 f_order_of) (consA (vD 0) (consA (vD 1) nilA))))
   (asgS (.nm 2) (cD (.bl true))))
  (retS (vD 2))))
def f__law_no_table : List D → R D := runF 3 2 s__law_no_table
def s__law_order (rec : List D → R D) : SS_ :=
  (seqS (ifS (tV (bin oIn (bD 1) (bD 2)))
   (retS (vD 2))
   skipS)
  (seqS (forS (iterD (bin subD (bD 0) (vD 1))) (.nm 3)
   (asgS (.nm 2) (callD (gd 3 rec) (consA (vD 0) (consA (vD 3) (consA (vD 2) nilA))))))
  (retS (bin oAdd (vD 2) (lstD (consA (vD 1) nilA))))))
def f__law_order : Nat → List D → R D
  | 0 => runF 4 3 badS
  | k + 1 => runF 4 3 (s__law_order (f__law_order k))
def s_alike : SS_ :=
  (seqS (ifS (tV (isiD [(17, false), (18, true)] (bD 0)))
   (retS (andV (isiD [(17, false), (18, true)] (bD 1)) (bin oEq (un (fldD [10] 2) (vD 0)) (un (fldD [10] 2) (vD 1)))))
   skipS)
  (retS (andV (isiD [(17, true), (18, false)] (bD 1)) (andV (bin oEq (un (fldD [9, 10] 0) (vD 0)) (un (fldD [9, 10] 0) (vD 1))) (bin oEq (un (fldD [9, 10] 1) (vD 0)) (un (fldD [9, 10] 1) (vD 1)))))))
def f_alike : List D → R D := runF 2 2 s_alike
def s_look_at_columns : SS_ :=
  (seqS (forS (iterD (vD 0)) (.nm 2)
   (forS (iterD (un (fldD [18] 1) (vD 2))) (.nm 3)
    (ifS (tV (bin oNotIn (bD 3) (bD 1)))
     (raiseS 1)
     skipS)))
  (forS (iterD (vD 0)) (.nm 2)
   (forS (zipD (un (fldD [18] 1) (vD 2)) (un (fldD [18] 2) (vD 2))) (.tp [3, 4])
    (ifS (notT (tV (callD (gd 2 f_alike) (consA (vD 4) (consA (bin subD (bD 1) (vD 3)) nilA)))))
     (raiseS 20)
     skipS))))
def f_look_at_columns : List D → R D := runF 5 2 s_look_at_columns
def s_free_of : SS_ :=
  (seqS (forS (iterD (un (fldD [18] 1) (vD 0))) (.nm 3)
   (ifS (andT (tV (bin oIn (bD 3) (bD 1))) (tV (bin oNotIn (bD 3) (bD 2))))
    (retS (cD (.bl false)))
    skipS))
  (retS (cD (.bl true))))
def f_free_of : List D → R D := runF 4 3 s_free_of
def s_look_for_rings : SS_ :=
  (seqS (asgS (.nm 1) (lcD (iterD (vD 0)) (.nm 4) yesT (un (fldD [18] 0) (vD 4)) [4]))
  (seqS (ownS 2 nilA)
  (seqS (asgS (.nm 3) (cD (.bl true)))
  (seqS (whileL (tV (vD 3))
   (seqS (asgS (.nm 3) (cD (.bl false)))
   (forS (iterD (vD 0)) (.nm 4)
    (ifS (andT (tV (bin oNotIn (un (fldD [18] 0) (vD 4)) (bD 2))) (tV (lookD (gd 3 f_free_of) (consA (bD 4) (consA (bD 1) (consA (bD 2) nilA))))))
     (seqS (appS 2 (un (fldD [18] 0) (vD 4)))
     (asgS (.nm 3) (cD (.bl true))))
     skipS))) 100000)
  (ifS (tV (bin oLt (un lenD (bD 2)) (un lenD (bD 0))))
   (raiseS 23)
   skipS)))))
def f_look_for_rings : List D → R D := runF 5 1 s_look_for_rings
def s_named_domains : SS_ :=
  (seqS (ownDctS 2)
  (seqS (forS (iterD (vD 0)) (.tp [3, 4])
   (seqS (ifS (orT (notT (tV (callD (gd 1 f_is_word) (consA (vD 3) nilA)))) (tV (bin oIn (bD 3) (bD 2))))
    (raiseS 1)
    skipS)
   (putS 2 (vD 3) (vD 4))))
  (seqS (forS (iterD (vD 1)) (.nm 5)
   (seqS (ifS (tV (bin oIn (un (fldD [18] 0) (vD 5)) (bD 2)))
    (raiseS 1)
    skipS)
   (putS 2 (un (fldD [18] 0) (vD 5)) (un (fldD [18] 3) (vD 5)))))
  (frzS [2] (retS (vD 2))))))
def f_named_domains : List D → R D := runF 6 2 s_named_domains
def s_Book___init__ : SS_ :=
  (seqS (ifS (orT (tV (bin oGt (un lenD (bD 1)) (cD (.int 20)))) (tV (bin oGt (un lenD (bD 2)) (cD (.int 30)))))
   (raiseS 5)
   skipS)
  (seqS (exprS (callD (gd 2 f_look_at_columns) (consA (vD 2) (consA (callD (gd 2 f_named_domains) (consA (vD 1) (consA (vD 2) nilA))) nilA))))
  (seqS (exprS (callD (gd 1 f_look_for_rings) (consA (vD 2) nilA)))
  (seqS (setFS 0 [24] 0 (un listD (bD 1)))
  (setFS 0 [24] 1 (un listD (bD 2)))))))
def i_Book : ISem := runI 3 2 s_Book___init__
def s_gathered_n : SS_ :=
  (seqS (ifS (tV (bin oIn (bD 1) (bD 2)))
   (retS (vD 2))
   skipS)
  (seqS (forS (iterD (callD (gd 2 f_asks) (consA (vD 0) (consA (vD 1) nilA)))) (.nm 3)
   (asgS (.nm 2) (callD (gd 3 (f_gathered 40)) (consA (vD 0) (consA (vD 3) (consA (vD 2) nilA))))))
  (retNewS (addN (vD 2) (lstD (consA (vD 1) nilA))))))
def n_gathered : List D → R (List D) := runN 4 3 s_gathered_n
def s_order_of_n : SS_ :=
  (retNewS (callN (gdN 3 n_gathered) (consA (vD 0) (consA (vD 1) (consA (lstD nilA) nilA)))))
def n_order_of : List D → R (List D) := runN 2 2 s_order_of_n
def s_law : SS_ :=
  (seqS (asgS (.nm 1) (bin oAdd (cD (.int 1)) (bin oMod (callD (gd 2 f__law_at) (consA (vD 0) (consA (cD (.int 0)) nilA))) (cD (.int 12)))))
  (seqS (asgS (.nm 2) (bin oMod (bin oDiv (callD (gd 2 f__law_at) (consA (vD 0) (consA (cD (.int 0)) nilA))) (cD (.int 36))) (vD 1)))
  (seqS (asgS (.nm 3) (callD (gd 2 f__law_folded) (consA (vD 0) (consA (vD 1) nilA))))
  (seqS (asgS (.nm 4) (callD (gd 1 f__law_names) (consA (vD 1) nilA)))
  (seqS (asgS (.nm 5) (lcD (rng1 (vD 1)) (.nm 8) yesT (callD (gd 4 f__law_asked) (consA (bin subD (bD 3) (vD 8)) (consA (vD 8) (consA (vD 1) (consA (cD (.int 0)) nilA))))) [8]))
  (seqS (asgS (.nm 6) (slD (lstD (consA (cD (.str "when")) (consA (cD (.str "b")) (consA (cD (.str "fact")) (consA (cD (.str "ab")) nilA))))) oNoPart (oPart (bin oAdd (cD (.int 1)) (bin oMod (bin oDiv (callD (gd 2 f__law_at) (consA (vD 0) (consA (cD (.int 0)) nilA))) (cD (.int 12))) (cD (.int 4)))))))
  (seqS (ownS 7 nilA)
  (seqS (forS (rng1 (vD 1)) (.nm 8)
   (seqS (asgS (.nm 9) (lcD (iterD (bin subD (bD 5) (vD 8))) (.nm 14) yesT (bin subD (bD 4) (vD 14)) [14]))
   (seqS (asgS (.nm 10) (bin subD (bD 6) (bin oMod (bin oDiv (bin subD (bD 3) (vD 8)) (cD (.int 21))) (un lenD (bD 6)))))
   (seqS (ifS (orT (tV (bin oEq (bin oMod (bin oDiv (bin subD (bD 3) (vD 8)) (cD (.int 7))) (cD (.int 3))) (cD (.int 0)))) (tV (bin oEq (un lenD (bD 9)) (cD (.int 0)))))
    (asgS (.nm 9) (bin oAdd (lstD (consA (vD 10) nilA)) (vD 9)))
    (ifS (tV (bin oEq (bin oMod (bin oDiv (bin subD (bD 3) (vD 8)) (cD (.int 7))) (cD (.int 3))) (cD (.int 1))))
     (asgS (.nm 9) (bin oAdd (vD 9) (lstD (consA (vD 10) nilA))))
     skipS))
   (appS 7 (callD (gd 3 f__law_net_table) (consA (bin subD (bD 4) (vD 8)) (consA (vD 9) (consA (cD (.int 0)) nilA)))))))))
  (seqS (asgS (.nm 11) (mkD 24 2 i_Book 2 (consA (lcD (iterD (vD 6)) (.nm 10) yesT (tupD (consA (vD 10) (consA (mkD 9 2 i_Numbers 2 (consA (cD (.int 0)) (consA (cD (.int 9)) nilA))) nilA))) [10]) (consA (bin oAdd (slD (bD 7) (oPart (vD 2)) oNoPart) (slD (bD 7) oNoPart (oPart (vD 2)))) nilA))))
  (seqS (forS (rng1 (vD 1)) (.nm 8)
   (seqS (asgS (.nm 12) (lcD (iterD (callD (gd 3 (f__law_order 40)) (consA (vD 5) (consA (vD 8) (consA (lstD nilA) nilA))))) (.nm 14) yesT (bin subD (bD 4) (vD 14)) [14]))
   (seqS (ownNS 13 (callN (gdN 2 n_order_of) (consA (vD 11) (consA (bin subD (bD 4) (vD 8)) nilA))))
   (seqS (ifS (orT (notT (tV (isiD [(0, false), (1, false), (2, false), (3, false), (4, true), (5, false), (6, false)] (bD 13)))) (tV (bin oNe (bD 13) (bD 12))))
    (retS (cD (.bl false)))
    skipS)
   (seqS (revS 13)
   (seqS (appS 13 (cD (.str "a")))
   (ifS (tV (bin oNe (callD (gd 2 f_order_of) (consA (vD 11) (consA (bin subD (bD 4) (vD 8)) nilA))) (bD 12)))
    (retS (cD (.bl false)))
    skipS)))))))
  (retS (andV (callD (gd 2 f__law_no_table) (consA (vD 11) (consA (bin subD (bD 6) (cD (.int 0))) nilA))) (callD (gd 2 f__law_no_table) (consA (vD 11) (consA (bin oAdd (bin subD (bD 4) (cD (.int 0))) (cD (.str "q"))) nilA)))))))))))))))
def f_law : List D → R D := runF 15 1 s_law
end Vi

namespace Vi
open PySem PySem.Spec PyProof.Rows L2
abbrev num (b : Int) : D := .obj 9 [.int 0, .int b]
theorem iDomain_eq (a b : Int) : i_Domain 9 [] [.int a, .int b] = .ok [.int a, .int b] := rfl
theorem iNumbers_eq {a b : Int} (h : a ≤ b) : i_Numbers 9 [] [.int a, .int b] = .ok [.int a, .int b] := by
  have e : decide (b < a) = false := decide_eq_false (by omega)
  unfold i_Numbers runI s_Numbers___init__ entry
  simp [oGt, i2, e, initS, iDomain_eq, R.bind, R.then]
theorem way_first : f_way_by [.str "first"] = .ok (.obj 12 [.str "first"]) := rfl
/-! ### the law's helpers -/
def cell (ns : List Int) (k : Nat) : Int := ns.getD k 0
theorem at_eq (ns : List Int) (k : Nat) : f__law_at [.scr ns, .int k] = .ok (.int (cell ns k)) := by
  unfold f__law_at runF s__law_at entry
  by_cases h : k < ns.length
  · have e : ns[k]? = some (cell ns k) := by
      unfold cell
      rw [List.getD_eq_getElem?_getD, List.getElem?_eq_getElem h]
      rfl
    simp [h, sub_scr e, R.then]
  · have e : cell ns k = 0 := by
      unfold cell
      rw [List.getD_eq_getElem?_getD, List.getElem?_eq_none (by omega)]
      rfl
    simp [h, e, R.then]
/-! the folded numbers -/
theorem upto_len (lo : Int) (n : Nat) : (upto lo n).length = n := by simp [upto]
theorem pow_lit (a b : Int) (h : powOk a b = true) : oPow (.int a) (.int b) = some (.int (a ^ b.toNat)) := by
  unfold oPow i2
  simp [h]
def foldStep (ns : List Int) (most : Nat) (ms : List Int) (k : Nat) : List Int := ms.set (k % most) ((ms.getD (k % most) 0 * 10007 + cell ns k % 1000000000000) % 1000000000000000000)
def foldedF (ns : List Int) (most : Nat) : List Int := (List.range' 1 (ns.length - 1)).foldl (foldStep ns most) (List.replicate most 0)
theorem foldl_len (ns : List Int) (most : Nat) : ∀ (ks : List Nat) (ms : List Int), (ks.foldl (foldStep ns most) ms).length = ms.length
  | [], _ => rfl
  | k :: ks, ms => by
    rw [List.foldl_cons, foldl_len ns most ks]
    unfold foldStep
    simp
theorem folded_len (ns : List Int) (most : Nat) : (foldedF ns most).length = most := by
  unfold foldedF
  rw [foldl_len]
  simp
theorem upto_nat (lo n : Nat) : upto (lo : Int) n = (List.range' lo n).map fun (k : Nat) => D.int (k : Int) := by
  unfold upto
  rw [List.range'_eq_map_range, List.map_map]
  apply List.map_congr_left
  intro i _
  simp
end Vi

namespace Vi
open PySem PySem.Spec PyProof.Rows L2
theorem inr62_of {i : Int} (h0 : -1000000 ≤ i) (h1 : i ≤ 1000000) : inr62 i = true := by
  unfold inr62
  exact decide_eq_true ⟨by omega, by omega⟩
theorem set_ok {xs : List D} {i : Nat} (h : i < xs.length) : ixN xs.length (i : Int) = some i := ixN_nat h
theorem p12 : oPow (.int 10) (.int 12) = some (.int 1000000000000) := by
  show (if powOk 10 12 = true then some (D.int ((10 : Int) ^ (12 : Int).toNat)) else none) = _
  rw [if_pos (by decide)]
  rfl
theorem p18 : oPow (.int 10) (.int 18) = some (.int 1000000000000000000) := by
  show (if powOk 10 18 = true then some (D.int ((10 : Int) ^ (18 : Int).toNat)) else none) = _
  rw [if_pos (by decide)]
  rfl
def foldBody : SS_ := (seqS (asgS (.nm 4) (bin oAdd (bin oMul2 (bin subD (bD 2) (bin oMod (vD 3) (vD 1))) (cD (.int 10007))) (bin oMod (bin subD (bD 0) (vD 3)) (bin oPow (cD (.int 10)) (cD (.int 12))))))
        (setIxS 2 (bin oMod (vD 3) (vD 1)) (bin oMod (vD 4) (bin oPow (cD (.int 10)) (cD (.int 18))))))
theorem fold_step (ns : List Int) (most : Nat) (h0 : 0 < most) (ms : List Int) (k : Nat) (s4 : Slot) (hms : ms.length = most) (hk : k < ns.length) :
      ∃ s4', foldBody [.sh (.scr ns), .sh (.int most), .ol (ms.map D.int), .sh (.int k), s4] = .nx [.sh (.scr ns), .sh (.int most), .ol ((foldStep ns most ms k).map D.int), .sh (.int k), s4'] := by
  have hm : (0 : Int) < most := by omega
  have e1 : ((k : Int) % (most : Int)) = ((k % most : Nat) : Int) := by omega
  have hlt : k % most < ms.length := by rw [hms]; exact Nat.mod_lt _ h0
  have e2 : (ms.map D.int)[k % most]? = some (.int (ms.getD (k % most) 0)) := by
    rw [List.getElem?_map, List.getElem?_eq_getElem hlt, List.getD_eq_getElem?_getD, List.getElem?_eq_getElem hlt]
    rfl
  have e3 : ns[k]? = some (cell ns k) := by
    unfold cell
    rw [List.getD_eq_getElem?_getD, List.getElem?_eq_getElem hk]
    rfl
  have e4 : ∀ m, mulOk m 10007 = true := fun m => by unfold mulOk; simp
  have e5 : ixN (ms.map D.int).length ((k % most : Nat) : Int) = some (k % most) := ixN_nat (by rw [List.length_map]; exact hlt)
  refine ⟨.sh (.int (ms.getD (k % most) 0 * 10007 + cell ns k % 1000000000000)), ?_⟩
  unfold foldBody foldStep
  have m12 : ∀ i, oMod (.int i) (.int 1000000000000) = some (.int (i % 1000000000000)) := fun i => mod_int (by decide)
  have m18 : ∀ i, oMod (.int i) (.int 1000000000000000000) = some (.int (i % 1000000000000000000)) := fun i => mod_int (by decide)
  have e6 : ixN ms.length ((k % most : Nat) : Int) = some (k % most) := ixN_nat hlt
  simp [mod_int hm, e1, sub_lst e2, sub_scr e3, p12, p18, R.then, oMul2, e4, m12, m18, setIxS, e6, -Int.natCast_emod]
theorem forFold (ns : List Int) (most : Nat) (h0 : 0 < most) : ∀ (ks : List Nat) (ms : List Int) (s3 s4 : Slot), ms.length = most → (∀ k ∈ ks, k < ns.length) →
    ∃ s3' s4', forL (.nm 3) foldBody (ks.map fun (k : Nat) => D.int (k : Int)) [.sh (.scr ns), .sh (.int most), .ol (ms.map D.int), s3, s4] = .nx [.sh (.scr ns), .sh (.int most), .ol ((ks.foldl (foldStep ns most) ms).map D.int), s3', s4']
  | [], ms, s3, s4, _, _ => ⟨s3, s4, rfl⟩
  | k :: ks, ms, s3, s4, hms, hk => by
    obtain ⟨s4', e⟩ := fold_step ns most h0 ms k s4 hms (hk k List.mem_cons_self)
    obtain ⟨a, b, e2⟩ := forFold ns most h0 ks (foldStep ns most ms k) (.sh (.int k)) s4' (by unfold foldStep; rw [List.length_set]; exact hms) fun j hj => hk j (List.mem_cons_of_mem _ hj)
    refine ⟨a, b, ?_⟩
    simp only [List.map_cons, forL, x_bind_nm, List.set_cons_succ, List.set_cons_zero, e, List.foldl_cons]
    exact e2
theorem s_folded : s__law_folded = (seqS (ownLcS 2 (lcD (rng1 (vD 1)) (.nm 3) yesT (cD (.int 0)) [3])) (seqS (forS (rng2 (cD (.int 1)) (un lenD (bD 0))) (.nm 3) foldBody) (frzS [2] (retS (vD 2))))) := rfl
theorem folded_eq (ns : List Int) (most : Nat) (h0 : 0 < most) (h1 : most ≤ 12) (hn : ns.length ≤ 63) : f__law_folded [.scr ns, .int most] = .ok (.lst ((foldedF ns most).map D.int)) := by
  obtain ⟨a, b, e⟩ := forFold ns most h0 (List.range' 1 (ns.length - 1)) (List.replicate most 0) .no .no (by simp) fun k hk => by
    have := List.mem_range'.mp hk
    omega
  refine runF_of rfl [.sh (.scr ns), .sh (.int most), .no, .no, .no] rfl ?_
  rw [s_folded]
  refine (seq_nx [.sh (.scr ns), .sh (.int most), .ol ((List.replicate most 0).map D.int), .no, .no] (ownLc_ok _ (lc_ok (rng1_ok rfl (by omega)) (by simp; omega) (lcL_map (fun (k : Nat) => D.int (k : Int)) (fun _ => true) (fun _ => D.int 0) _ fun a _ => ⟨_, rfl, rfl, fun _ => rfl⟩)) ?_)).trans ?_
  · rw [filt_true]
    simp [List.map_const']
  · refine (seq_nx _ ((for_ok (rng2_ok (m := 1) (n := ns.length) rfl rfl (by omega) (by omega))).trans e)).trans ?_
    rfl
end Vi

namespace Vi
open PySem PySem.Spec PyProof.Rows L2
/-! ### what a number asks -/
def nameT : List Str := ["xq", "w", "xxe", "xr", "tb", "xxyb", "xub", "ib", "xxoby", "xpby", "aby", "xxsby"]
theorem names_eq (most : Nat) (h0 : 0 < most) (h1 : most ≤ 12) : f__law_names [.int most] = .ok (.lst ((nameT.take most).map D.str)) := by
  obtain rfl | rfl | rfl | rfl | rfl | rfl | rfl | rfl | rfl | rfl | rfl | rfl : most = 1 ∨ most = 2 ∨ most = 3 ∨ most = 4 ∨ most = 5 ∨ most = 6 ∨ most = 7 ∨ most = 8 ∨ most = 9 ∨ most = 10 ∨ most = 11 ∨ most = 12 := by omega
  all_goals kernel_rfl
def askStep (k most : Int) (loose : Bool) (b : Int × List Int × Slot × Slot) (j : Nat) : Int × List Int × Slot × Slot :=
  (b.1 / most, (if b.1 % most ≠ k ∧ b.1 % most ∉ b.2.1 ∧ (b.1 % most < k ∨ loose = true) then b.2.1 ++ [b.1 % most] else b.2.1), .sh (.int (j : Int)), .sh (.int (b.1 % most)))
def askF (n k most : Int) (loose : Bool) : List Int := ((List.range' 0 3).foldl (askStep k most loose) (n, [], .no, .no)).2.1
def askBody : SS_ := (seqS (asgS (.nm 7) (bin oMod (vD 0) (vD 2)))
   (seqS (asgS (.nm 0) (bin oDiv (vD 0) (vD 2)))
   (ifS (andT (tV (bin oNe (bD 7) (bD 1))) (andT (tV (bin oNotIn (bD 7) (bD 5))) (orT (tV (bin oLt (vD 7) (vD 1))) (tV (vD 4)))))
    (appS 5 (vD 7))
    skipS)))
theorem s_asked : s__law_asked = (seqS (asgS (.nm 4) (orV (bin oEq (bD 3) (cD (.int 1))) (andV (bin oEq (bD 3) (cD (.int 2))) (bin oEq (bin oMod (bin oDiv (bin oDiv (vD 0) (vD 2)) (vD 2)) (cD (.int 5))) (cD (.int 0))))))
  (seqS (ownS 5 nilA) (seqS (forS (rng1 (cD (.int 3))) (.nm 6) askBody) (frzS [5] (retS (vD 5)))))) := rfl
def looseF (n most mode : Int) : Bool := decide (mode = 1) || (decide (mode = 2) && decide (n / most / most % 5 = 0))
abbrev askSt (k most mode : Int) (loose : Bool) (b : Int × List Int × Slot × Slot) : Store := [.sh (.int b.1), .sh (.int k), .sh (.int most), .sh (.int mode), .sh (.bl loose), .ol (b.2.1.map D.int), b.2.2.1, b.2.2.2]
theorem asked_eq (n k most mode : Int) (h0 : 0 < most) (h1 : most ≤ 12) : f__law_asked [.int n, .int k, .int most, .int mode] = .ok (.lst ((askF n k most (looseF n most mode)).map D.int)) := by
  have hd : ∀ i, oDiv (.int i) (.int most) = some (.int (i / most)) := fun i => div_int h0 (by omega)
  have hm : ∀ i, oMod (.int i) (.int most) = some (.int (i % most)) := fun i => mod_int h0
  have h5 : ∀ i, oMod (.int i) (.int 5) = some (.int (i % 5)) := fun i => mod_int (by decide)
  refine runF_of rfl [.sh (.int n), .sh (.int k), .sh (.int most), .sh (.int mode), .no, .no, .no, .no] rfl ?_
  rw [s_asked]
  refine (seq_nx [.sh (.int n), .sh (.int k), .sh (.int most), .sh (.int mode), .sh (.bl (looseF n most mode)), .no, .no, .no] (asg_ok _ ?_ rfl)).trans ?_
  · simp [orV, andV, hd, h5, R.bind, looseF]
    by_cases c1 : mode = 1
    · simp [c1]
    · by_cases c2 : mode = 2
      · simp [c2]
      · simp [c1, c2]
  refine (seq_nx (askSt k most mode (looseF n most mode) (n, [], .no, .no)) rfl).trans ?_
  obtain ⟨e1, e2⟩ := forL_ix (t := .nm 6) (body := askBody) (fun (j : Nat) => D.int (j : Int)) (askSt k most mode (looseF n most mode)) (askStep k most (looseF n most mode)) (fun i b => b.2.1.length ≤ i) 3 (List.range' 0 3) (n, [], .no, .no) 0 (by decide) (Nat.le_refl _) fun i b j _ hi p => by
    obtain ⟨m, as, s6, s7⟩ := b
    refine ⟨?_, _, rfl, .inl ?_⟩
    · unfold askStep
      split
      · simp at p ⊢
        exact p
      · exact Nat.le_succ_of_le p
    · let L := looseF n most mode
      have hL : looseF n most mode = L := rfl
      show askBody [.sh (.int m), .sh (.int k), .sh (.int most), .sh (.int mode), .sh (.bl L), .ol (as.map D.int), .sh (.int j), s7] = _
      refine (seq_nx [.sh (.int m), .sh (.int k), .sh (.int most), .sh (.int mode), .sh (.bl L), .ol (as.map D.int), .sh (.int j), .sh (.int (m % most))] (asg_ok _ (by simp [hm]) rfl)).trans ?_
      refine (seq_nx [.sh (.int (m / most)), .sh (.int k), .sh (.int most), .sh (.int mode), .sh (.bl L), .ol (as.map D.int), .sh (.int j), .sh (.int (m % most))] (asg_ok _ (by simp [hd]) rfl)).trans ?_
      rw [if_ok (b := decide (m % most ≠ k ∧ m % most ∉ as ∧ (m % most < k ∨ L = true))) (by
        by_cases c1 : m % most = k
        · simp [c1]
        · by_cases c2 : m % most ∈ as
          · simp [c1, c2]
          · by_cases c3 : m % most < k
            · simp [c1, c2, c3]
            · simp [c1, c2, c3])]
      show _ = Out.nx [.sh (.int (m / most)), .sh (.int k), .sh (.int most), .sh (.int mode), .sh (.bl L), .ol ((if m % most ≠ k ∧ m % most ∉ as ∧ (m % most < k ∨ L = true) then as ++ [m % most] else as).map D.int), .sh (.int j), .sh (.int (m % most))]
      by_cases c : m % most ≠ k ∧ m % most ∉ as ∧ (m % most < k ∨ L = true)
      · rw [if_pos (decide_eq_true c), if_pos c]
        have p : as.length ≤ i := p
        exact app_ok _ rfl rfl (by rw [List.length_map]; omega) (by rw [List.map_append]; rfl)
      · rw [if_neg (by rw [decide_eq_false c]; exact Bool.false_ne_true), if_neg c]
        rfl
  refine (seq_nx _ ((for_ok (rng1_ok (n := 3) rfl (by decide))).trans e1)).trans ?_
  exact frz_ret rfl
end Vi

namespace Vi
open PySem PySem.Spec PyProof.Rows L2
/-! ### a table is made -/
def isW (s : Str) : Prop := f_is_word [.str s] = .ok (.bl true)
theorem look_names_eq (nm : Str) (heads : List Str) (h0 : isW nm) (h1 : ∀ x ∈ heads, isW x) (hd : (nm :: heads).Nodup) (hl : heads.length ≤ 4) : f_look_at_names [.str nm, .lst (heads.map D.str)] = .ok .non := by
  have go : ∀ (done rest : List Str) (s3 : Slot), (nm :: (done ++ rest)).Nodup → (∀ x ∈ rest, isW x) → (done ++ rest).length ≤ 4 →
      ∃ ρ', forL (.nm 3) (seqS (ifS (orT (notT (tV (callD (gd 1 f_is_word) (consA (vD 3) nilA)))) (tV (bin oIn (bD 3) (bD 2)))) (raiseS 1) skipS) (appS 2 (vD 3))) (rest.map D.str) [.sh (.str nm), .sh (.lst (heads.map D.str)), .ol ((nm :: done).map D.str), s3] = .nx ρ' := by
    intro done rest
    induction rest generalizing done with
    | nil => exact fun s3 _ _ _ => ⟨_, rfl⟩
    | cons x rest ih =>
      intro s3 hn hw hlen
      have hx : x ∉ nm :: done := by
        intro z
        rw [← List.cons_append, List.nodup_append] at hn
        exact hn.2.2 x z x List.mem_cons_self rfl
      obtain ⟨ρ', e⟩ := ih (done ++ [x]) (.sh (.str x)) (by simpa using hn) (fun y hy => hw y (List.mem_cons_of_mem _ hy)) (by simpa using hlen)
      refine ⟨ρ', ?_⟩
      simp only [List.map_cons, forL, x_bind_nm, List.set_cons_succ, List.set_cons_zero]
      rw [seq_nx [.sh (.str nm), .sh (.lst (heads.map D.str)), .ol ((nm :: done).map D.str), .sh (.str x)] (by
        rw [if_ok (b := false) (by
          have e2 := in_strs x (nm :: done)
          rw [decide_eq_false hx] at e2
          simp only [List.map_cons] at e2
          simp [gd, show f_is_word [.str x] = .ok (.bl true) from hw x List.mem_cons_self, e2])]
        rfl)]
      rw [app_ok (xs := (nm :: done).map D.str) (d := .str x) [.sh (.str nm), .sh (.lst (heads.map D.str)), .ol ((nm :: (done ++ [x])).map D.str), .sh (.str x)] rfl rfl (by
        simp at hlen ⊢
        omega) (by simp)]
      exact e
  obtain ⟨ρ', e⟩ := go [] heads .no (by simpa using hd) h1 (by simpa using hl)
  refine runF_nx (ρ' := ρ') rfl [.sh (.str nm), .sh (.lst (heads.map D.str)), .no, .no] rfl ?_
  unfold s_look_at_names
  refine (seq_nx [.sh (.str nm), .sh (.lst (heads.map D.str)), .ol [.str nm], .no] rfl).trans ?_
  refine (seq_nx [.sh (.str nm), .sh (.lst (heads.map D.str)), .ol [.str nm], .no] ?_).trans ?_
  · rw [if_ok (b := false) (by simp [gd, show f_is_word [.str nm] = .ok (.bl true) from h0])]
    rfl
  rw [for_ok (ds := heads.map D.str) rfl]
  exact e
end Vi

namespace Vi
open PySem PySem.Spec PyProof.Rows L2
abbrev spanD (k : Int) : D := .lst [.tup [.int k, .int (k + 1)]]
abbrev rowD (heads : List Str) (k : Int) : D := .tup [.lst (heads.map fun _ => spanD k), .int (9 - k)]
theorem zip_map {α : Type} (f g : α → D) : ∀ l : List α, zipL (l.map f) (l.map g) = l.map fun a => .tup [f a, g a]
  | [] => rfl
  | a :: l => by
    have := zip_map f g l
    unfold zipL at this ⊢
    simp only [List.map_cons, List.zip_cons_cons]
    rw [this]
def rowBody : SS_ := (ifS (orT (tV (bin oLt (vD 6) (un (fldD [9, 10] 0) (vD 5)))) (tV (bin oGt (vD 7) (un (fldD [9, 10] 1) (vD 5)))))
     (raiseS 4)
     skipS)
theorem look_row_eq (heads : List Str) (b k : Int) (hb : 9 ≤ b) (hk : 0 ≤ k ∧ k ≤ 1) : f_look_at_row [.lst (heads.map fun _ => num b), num b, rowD heads k] = .ok .non := by
  have c1 : ¬ b < k + 1 := by omega
  have c2 : ¬ k < 0 := by omega
  have c3 : ¬ 9 - k < 0 := by omega
  have c4 : ¬ b < 9 - k := by omega
  have inner : ∀ s3 s4 s6 s7, forL (.tp [6, 7]) rowBody [.tup [.int k, .int (k + 1)]] [.sh (.lst (heads.map fun _ => num b)), .sh (num b), .sh (rowD heads k), s3, s4, .sh (num b), s6, s7]
      = .nx [.sh (.lst (heads.map fun _ => num b)), .sh (num b), .sh (rowD heads k), s3, s4, .sh (num b), .sh (.int k), .sh (.int (k + 1))] := by
    intro s3 s4 s6 s7
    have e : rowBody [.sh (.lst (heads.map fun _ => num b)), .sh (num b), .sh (rowD heads k), s3, s4, .sh (num b), .sh (.int k), .sh (.int (k + 1))] = .nx [.sh (.lst (heads.map fun _ => num b)), .sh (num b), .sh (rowD heads k), s3, s4, .sh (num b), .sh (.int k), .sh (.int (k + 1))] := by
      unfold rowBody
      rw [if_ok (b := false) (by simp [fldD, c1, c2])]
      rfl
    show (match rowBody [.sh (.lst (heads.map fun _ => num b)), .sh (num b), .sh (rowD heads k), s3, s4, .sh (num b), .sh (.int k), .sh (.int (k + 1))] with
      | .nx ρ' => forL (.tp [6, 7]) rowBody [] ρ'
      | .ct ρ' => forL (.tp [6, 7]) rowBody [] ρ'
      | .bk ρ' => .nx ρ'
      | o => o) = _
    rw [e]
    rfl
  have outer := forL_map (t := .tp [4, 5]) (body := forS (iterD (vD 4)) (.tp [6, 7]) rowBody) (fun _ : Str => .tup [spanD k, num b])
    (fun q : Slot × Slot × Slot × Slot => [.sh (.lst (heads.map fun _ => num b)), .sh (num b), .sh (rowD heads k), .sh (.lst (heads.map fun _ => spanD k)), q.1, q.2.1, q.2.2.1, q.2.2.2])
    (fun _ _ => (.sh (spanD k), .sh (num b), .sh (.int k), .sh (.int (k + 1)))) heads (.no, .no, .no, .no) fun q a _ => ⟨[.sh (.lst (heads.map fun _ => num b)), .sh (num b), .sh (rowD heads k), .sh (.lst (heads.map fun _ => spanD k)), .sh (spanD k), .sh (num b), q.2.2.1, q.2.2.2], rfl, .inl ((for_ok rfl).trans (inner _ _ _ _))⟩
  apply runF_nx rfl [.sh (.lst (heads.map fun _ => num b)), .sh (num b), .sh (rowD heads k), .no, .no, .no, .no, .no] rfl
  unfold s_look_at_row
  refine (seq_nx [.sh (.lst (heads.map fun _ => num b)), .sh (num b), .sh (rowD heads k), .sh (.lst (heads.map fun _ => spanD k)), .no, .no, .no, .no] (asg_ok _ rfl rfl)).trans ?_
  refine (seq_nx [.sh (.lst (heads.map fun _ => num b)), .sh (num b), .sh (rowD heads k), .sh (.lst (heads.map fun _ => spanD k)), .no, .no, .no, .no] ?_).trans ?_
  · rw [if_ok (b := false) (by simp)]
    rfl
  refine (seq_nx _ ((for_ok (ds := heads.map fun _ => .tup [spanD k, num b]) ?_).trans outer)).trans ?_
  · show R.ok (zipL (heads.map fun _ => spanD k) (heads.map fun _ => num b)) = _
    rw [zip_map]
  · have e1 : subD (rowD heads k) (.int 1) = some (.int (9 - k)) := rfl
    rw [if_ok (b := false) (by simp [e1, fldD, c3, c4])]
    rfl
theorem spans_lc (heads : List Str) (k : Int) (hl : heads.length ≤ 4) (s0 s1 s3 : Slot) (s4 : Slot) : lcD (iterD (vD 2)) (.nm 4) yesT (un listD (bD 4)) [4] [s0, s1, .sh (.lst (heads.map fun _ => spanD k)), s3, s4] = .ok (.lst (heads.map fun _ => spanD k)) := by
  refine lc_ok (ds := heads.map fun _ => spanD k) rfl (by rw [List.length_map]; omega) ?_
  refine (lcL_map (fun _ : Str => spanD k) (fun _ => true) (fun _ => spanD k) heads fun a _ => ⟨_, rfl, rfl, fun _ => rfl⟩).trans ?_
  rw [filt_true]
theorem own_rows_eq (heads : List Str) (hl : heads.length ≤ 4) : f_own_rows [.lst [rowD heads 0, rowD heads 1]] = .ok (.lst [rowD heads 0, rowD heads 1]) := by
  have body : ∀ (k : Int) (acc : List D) (s4 : Slot), acc.length ≤ 1 → (appS 1 (tupD (consA (lcD (iterD (vD 2)) (.nm 4) yesT (un listD (bD 4)) [4]) (consA (vD 3) nilA)))) [.sh (.lst [rowD heads 0, rowD heads 1]), .ol acc, .sh (.lst (heads.map fun _ => spanD k)), .sh (.int (9 - k)), s4]
      = .nx [.sh (.lst [rowD heads 0, rowD heads 1]), .ol (acc ++ [rowD heads k]), .sh (.lst (heads.map fun _ => spanD k)), .sh (.int (9 - k)), s4] := by
    intro k acc s4 ha
    refine app_ok (d := rowD heads k) _ rfl ?_ (by omega) rfl
    rw [x_tupD, x_consA, spans_lc heads k hl]
    rfl
  refine runF_of rfl [.sh (.lst [rowD heads 0, rowD heads 1]), .no, .no, .no, .no] rfl ?_
  unfold s_own_rows
  refine (seq_nx [.sh (.lst [rowD heads 0, rowD heads 1]), .ol [], .no, .no, .no] rfl).trans ?_
  refine (seq_nx [.sh (.lst [rowD heads 0, rowD heads 1]), .ol [rowD heads 0, rowD heads 1], .sh (.lst (heads.map fun _ => spanD 1)), .sh (.int (9 - 1)), .no] ?_).trans (frz_ret rfl)
  rw [for_ok (ds := [rowD heads 0, rowD heads 1]) rfl]
  have b0 := body 0 [] .no (by decide)
  have b1 := body 1 [rowD heads 0] .no (Nat.le_refl 1)
  show (match (appS 1 (tupD (consA (lcD (iterD (vD 2)) (.nm 4) yesT (un listD (bD 4)) [4]) (consA (vD 3) nilA)))) [.sh (.lst [rowD heads 0, rowD heads 1]), .ol [], .sh (.lst (heads.map fun _ => spanD 0)), .sh (.int (9 - 0)), .no] with
      | .nx ρ' => forL (.tp [2, 3]) (appS 1 (tupD (consA (lcD (iterD (vD 2)) (.nm 4) yesT (un listD (bD 4)) [4]) (consA (vD 3) nilA)))) [rowD heads 1] ρ'
      | .ct ρ' => forL (.tp [2, 3]) (appS 1 (tupD (consA (lcD (iterD (vD 2)) (.nm 4) yesT (un listD (bD 4)) [4]) (consA (vD 3) nilA)))) [rowD heads 1] ρ'
      | .bk ρ' => .nx ρ'
      | o => o) = _
  rw [b0]
  show (match (appS 1 (tupD (consA (lcD (iterD (vD 2)) (.nm 4) yesT (un listD (bD 4)) [4]) (consA (vD 3) nilA)))) [.sh (.lst [rowD heads 0, rowD heads 1]), .ol [rowD heads 0], .sh (.lst (heads.map fun _ => spanD 1)), .sh (.int (9 - 1)), .no] with
      | .nx ρ' => forL (.tp [2, 3]) (appS 1 (tupD (consA (lcD (iterD (vD 2)) (.nm 4) yesT (un listD (bD 4)) [4]) (consA (vD 3) nilA)))) [] ρ'
      | .ct ρ' => forL (.tp [2, 3]) (appS 1 (tupD (consA (lcD (iterD (vD 2)) (.nm 4) yesT (un listD (bD 4)) [4]) (consA (vD 3) nilA)))) [] ρ'
      | .bk ρ' => .nx ρ'
      | o => o) = _
  rw [b1]
  rfl
/-! Table -/
abbrev tblF (nm : Str) (heads : List Str) (b : Int) : List D := [.str nm, .lst (heads.map D.str), .lst (heads.map fun _ => num b), num b, .str "first", .lst [rowD heads 0, rowD heads 1]]
abbrev tbl (nm : Str) (heads : List Str) (b : Int) : D := .obj 18 (tblF nm heads b)
theorem iTable_eq (nm : Str) (heads : List Str) (b : Int) (hb : 9 ≤ b) (h0 : isW nm) (h1 : ∀ x ∈ heads, isW x) (hd : (nm :: heads).Nodup) (hl : heads.length ≤ 4) (hp : 0 < heads.length) : i_Table 18 [] (tblF nm heads b) = .ok (tblF nm heads b) := by
  let R0 : List D := [rowD heads 0, rowD heads 1]
  let r : Slot → Store := fun s7 => [.sh (.str nm), .sh (.lst (heads.map D.str)), .sh (.lst (heads.map fun _ => num b)), .sh (num b), .sh (.str "first"), .sh (.lst R0), s7]
  have c1 : ¬ (heads.length : Int) = 0 := by omega
  have c2 : ¬ 4 < (heads.length : Int) := by omega
  have c3 : ¬ heads = [] := fun z => by rw [z] at hp; exact absurd hp (Nat.lt_irrefl 0)
  have c4 : ¬ ("first" : Str) = "sum" := by decide
  refine runI_of (r := r (.sh (rowD heads 1))) rfl (r .no) rfl ?_
  unfold s_Table___init__
  refine (seq_nx (.oo 18 [] :: r .no) ?_).trans ?_
  · show (R.then (f_look_at_names [.str nm, .lst (heads.map D.str)]) _ _) = _
    rw [look_names_eq nm heads h0 h1 hd hl]
    rfl
  refine (seq_nx (.oo 18 [] :: r .no) ?_).trans ?_
  · rw [if_ok (b := false) (by simp [r, R0, c1, c2, c3])]
    rfl
  refine (seq_nx (.oo 18 [] :: r .no) ?_).trans ?_
  · show (R.then (f_way_by [.str "first"]) _ _) = _
    rw [way_first]
    rfl
  refine (seq_nx (.oo 18 [] :: r .no) ?_).trans ?_
  · rw [if_ok (b := false) (by simp [r, c4])]
    rfl
  refine (seq_nx (.oo 18 [] :: r (.sh (rowD heads 1))) ?_).trans ?_
  · have e0 := look_row_eq heads b 0 hb (by decide)
    have e1 := look_row_eq heads b 1 hb (by decide)
    rw [for_ok (ds := R0) rfl]
    show (match R.then (f_look_at_row [.lst (heads.map fun _ => num b), num b, rowD heads 0]) (.oo 18 [] :: r (.sh (rowD heads 0))) (fun _ => Out.nx (.oo 18 [] :: r (.sh (rowD heads 0)))) with
      | .nx ρ' => forL (.nm 7) (exprS (callD (gd 3 f_look_at_row) (consA (vD 3) (consA (vD 4) (consA (vD 7) nilA))))) [rowD heads 1] ρ'
      | .ct ρ' => forL (.nm 7) (exprS (callD (gd 3 f_look_at_row) (consA (vD 3) (consA (vD 4) (consA (vD 7) nilA))))) [rowD heads 1] ρ'
      | .bk ρ' => .nx ρ'
      | o => o) = _
    rw [e0]
    show (match R.then (f_look_at_row [.lst (heads.map fun _ => num b), num b, rowD heads 1]) (.oo 18 [] :: r (.sh (rowD heads 1))) (fun _ => Out.nx (.oo 18 [] :: r (.sh (rowD heads 1)))) with
      | .nx ρ' => forL (.nm 7) (exprS (callD (gd 3 f_look_at_row) (consA (vD 3) (consA (vD 4) (consA (vD 7) nilA))))) [] ρ'
      | .ct ρ' => forL (.nm 7) (exprS (callD (gd 3 f_look_at_row) (consA (vD 3) (consA (vD 4) (consA (vD 7) nilA))))) [] ρ'
      | .bk ρ' => .nx ρ'
      | o => o) = _
    rw [e1]
    rfl
  refine (seq_nx (.oo 18 [.str nm] :: r (.sh (rowD heads 1))) rfl).trans ?_
  refine (seq_nx (.oo 18 [.str nm, .lst (heads.map D.str)] :: r (.sh (rowD heads 1))) rfl).trans ?_
  refine (seq_nx (.oo 18 [.str nm, .lst (heads.map D.str), .lst (heads.map fun _ => num b)] :: r (.sh (rowD heads 1))) rfl).trans ?_
  refine (seq_nx (.oo 18 [.str nm, .lst (heads.map D.str), .lst (heads.map fun _ => num b), num b] :: r (.sh (rowD heads 1))) rfl).trans ?_
  refine (seq_nx (.oo 18 [.str nm, .lst (heads.map D.str), .lst (heads.map fun _ => num b), num b, .str "first"] :: r (.sh (rowD heads 1))) rfl).trans ?_
  show R.then (f_own_rows [.lst R0]) _ _ = _
  rw [own_rows_eq heads hl]
  rfl
theorem num_mk (b : Int) (hb : 9 ≤ b) (ρ : Store) (g : DE) (h : g ρ = .ok (.int b)) : mkD 9 2 i_Numbers 2 (consA (cD (.int 0)) (consA g nilA)) ρ = .ok (num b) := by
  exact mkD_ok (consA_ok rfl (consA_ok h rfl)) rfl (iNumbers_eq (by omega : (0 : Int) ≤ b)) rfl
theorem net_table_eq (nm : Str) (heads : List Str) (mode : Int) (hb : 0 ≤ mode) (h0 : isW nm) (h1 : ∀ x ∈ heads, isW x) (hd : (nm :: heads).Nodup) (hl : heads.length ≤ 4) (hp : 0 < heads.length) : f__law_net_table [.str nm, .lst (heads.map D.str), .int mode] = .ok (tbl nm heads (9 + mode)) := by
  have hb9 : 9 ≤ 9 + mode := by omega
  refine runF_of rfl [.sh (.str nm), .sh (.lst (heads.map D.str)), .sh (.int mode), .no, .no, .no, .no] rfl ?_
  unfold s__law_net_table
  refine (seq_nx [.sh (.str nm), .sh (.lst (heads.map D.str)), .sh (.int mode), .sh (num (9 + mode)), .no, .no, .no] (asg_ok _ (num_mk _ hb9 _ _ rfl) rfl)).trans ?_
  have row : ∀ (k : Int) , (tupD (consA (lcD (iterD (vD 1)) (.nm 6) yesT (lstD (consA (tupD (consA (vD 5) (consA (bin oAdd (vD 5) (cD (.int 1))) nilA))) nilA)) [6]) (consA (bin oSub (cD (.int 9)) (vD 5)) nilA)))
      [.sh (.str nm), .sh (.lst (heads.map D.str)), .sh (.int mode), .sh (num (9 + mode)), .no, .sh (.int k), .no] = .ok (rowD heads k) := by
    intro k
    have e : lcD (iterD (vD 1)) (.nm 6) yesT (lstD (consA (tupD (consA (vD 5) (consA (bin oAdd (vD 5) (cD (.int 1))) nilA))) nilA)) [6]
        [.sh (.str nm), .sh (.lst (heads.map D.str)), .sh (.int mode), .sh (num (9 + mode)), .no, .sh (.int k), .no] = .ok (.lst (heads.map fun _ => spanD k)) := by
      refine lc_ok (ds := heads.map D.str) rfl (by rw [List.length_map]; omega) ?_
      refine (lcL_map D.str (fun _ => true) (fun _ => spanD k) heads fun a _ => ⟨_, rfl, rfl, fun _ => rfl⟩).trans ?_
      rw [filt_true]
    rw [x_tupD, x_consA, e]
    rfl
  have rows : lcD (rng1 (cD (.int 2))) (.nm 5) yesT (tupD (consA (lcD (iterD (vD 1)) (.nm 6) yesT (lstD (consA (tupD (consA (vD 5) (consA (bin oAdd (vD 5) (cD (.int 1))) nilA))) nilA)) [6]) (consA (bin oSub (cD (.int 9)) (vD 5)) nilA))) [5]
      [.sh (.str nm), .sh (.lst (heads.map D.str)), .sh (.int mode), .sh (num (9 + mode)), .no, .no, .no] = .ok (.lst [rowD heads 0, rowD heads 1]) := by
    refine lc_ok (rng1_ok (n := 2) rfl (by decide)) (by simp) ?_
    refine (lcL_map (fun (k : Nat) => D.int (k : Int)) (fun _ => true) (fun (k : Nat) => rowD heads (k : Int)) _ fun a _ => ⟨_, rfl, rfl, fun _ => row _⟩).trans ?_
    rw [filt_true]
    rfl
  refine (seq_nx [.sh (.str nm), .sh (.lst (heads.map D.str)), .sh (.int mode), .sh (num (9 + mode)), .sh (.lst [rowD heads 0, rowD heads 1]), .no, .no] (asg_ok _ rows rfl)).trans ?_
  refine ret_ok ?_
  have nums : lcD (iterD (vD 1)) (.nm 6) yesT (mkD 9 2 i_Numbers 2 (consA (cD (.int 0)) (consA (bin oAdd (cD (.int 9)) (vD 2)) nilA))) [6]
      [.sh (.str nm), .sh (.lst (heads.map D.str)), .sh (.int mode), .sh (num (9 + mode)), .sh (.lst [rowD heads 0, rowD heads 1]), .no, .no] = .ok (.lst (heads.map fun _ => num (9 + mode))) := by
    refine lc_ok (ds := heads.map D.str) rfl (by rw [List.length_map]; omega) ?_
    refine (lcL_map D.str (fun _ => true) (fun _ => num (9 + mode)) heads fun a _ => ⟨_, rfl, rfl, fun _ => num_mk _ hb9 _ _ rfl⟩).trans ?_
    rw [filt_true]
  exact mkD_ok (consA_ok rfl (consA_ok rfl (consA_ok nums rfl))) rfl (iTable_eq nm heads (9 + mode) hb9 h0 h1 hd hl hp) rfl
end Vi

namespace Vi
open PySem PySem.Spec PyProof.Rows L2
/-! ### a book is made -/
/-- tables by name and columns, all of domain num b -/
abbrev TL : Type := List (Str × List Str)
abbrev tbD (b : Int) (t : Str × List Str) : D := tbl t.1 t.2 b
abbrev dkeys (ns : List Str) : List Key := ns.map Sum.inr
theorem look_map (c : D) (x : Str) : ∀ ns : List Str, look (dkeys ns) (ns.map fun _ => c) (.inr x) = if x ∈ ns then some c else none
  | [] => rfl
  | n :: ns => by
    have ih := look_map c x ns
    unfold look at ih ⊢
    by_cases h : n = x
    · subst h
      simp
    · have h' : ¬ x = n := fun z => h z.symm
      simp only [dkeys, List.map_cons, List.zip_cons_cons, List.find?_cons, List.mem_cons]
      rw [show decide ((Sum.inr n : Key) = Sum.inr x) = false from decide_eq_false (fun z => h (by injection z))]
      simp only [h', false_or]
      exact ih
@[simp] theorem in_dct (x : Str) (ns : List Str) (c : D) : oIn (.str x) (.dct (dkeys ns) (ns.map fun _ => c)) = some (.bl (decide (x ∈ ns))) := by
  show Option.map D.bl (some (look (dkeys ns) (ns.map fun _ => c) (.inr x)).isSome) = _
  rw [look_map]
  by_cases h : x ∈ ns <;> simp [h]
@[simp] theorem notIn_dct (x : Str) (ns : List Str) (c : D) : oNotIn (.str x) (.dct (dkeys ns) (ns.map fun _ => c)) = some (.bl (!decide (x ∈ ns))) := by
  show Option.map (fun b => D.bl !b) (some (look (dkeys ns) (ns.map fun _ => c) (.inr x)).isSome) = _
  rw [look_map]
  by_cases h : x ∈ ns <;> simp [h]
theorem sub_dct {x : Str} {ns : List Str} (c : D) (h : x ∈ ns) : subD (.dct (dkeys ns) (ns.map fun _ => c)) (.str x) = some c := by
  show look (dkeys ns) (ns.map fun _ => c) (.inr x) = some c
  rw [look_map, if_pos h]
theorem put_new {x : Str} {ns : List Str} (c : D) (h : x ∉ ns) : putD (dkeys ns) (ns.map fun _ => c) (.inr x) c = (dkeys (ns ++ [x]), (ns ++ [x]).map fun _ => c) := by
  have e : ((dkeys ns).any fun j => decide (j = Sum.inr x)) = false := by
    rw [List.any_eq_false]
    intro j hj
    obtain ⟨n, hn, rfl⟩ := List.mem_map.mp hj
    have : ¬ (Sum.inr n : Key) = Sum.inr x := fun z => h (by injection z with z; rw [← z]; exact hn)
    simp [this]
  unfold putD
  rw [e, if_neg Bool.false_ne_true]
  simp [dkeys]
theorem put_ok {i : Nat} {g f : DE} {ρ : Store} {ns : List Str} {x : Str} {c : D} (ρ' : Store) (hf : f ρ = .ok c) (hi : ρ[i]? = some (.od (dkeys ns) (ns.map fun _ => c))) (hg : g ρ = .ok (.str x)) (hx : x ∉ ns) (hl : ns.length + 1 ≤ 16000000) (e : ρ.set i (.od (dkeys (ns ++ [x])) ((ns ++ [x]).map fun _ => c)) = ρ') : putS i g f ρ = .nx ρ' := by
  unfold putS
  rw [hf, then_ok, hi]
  show (g ρ).then ρ _ = _
  rw [hg, then_ok]
  show (if small ((dkeys ns).length + 1) = true then Out.nx (ρ.set i (.od (putD (dkeys ns) (ns.map fun _ => c) (.inr x) c).1 (putD (dkeys ns) (ns.map fun _ => c) (.inr x) c).2)) else .bad) = _
  rw [if_pos (x_small (by simpa [dkeys] using hl)), put_new c hx, ← e]
abbrev fcD (b : Int) (f : Str) : D := .tup [.str f, num b]
theorem frz_retD {i : Nat} {ρ : Store} {ks : List Key} {xs : List D} (hi : ρ[i]? = some (.od ks xs)) : frzS [i] (retS (vD i)) ρ = .rt (.dct ks xs) := by
  have hl := (List.getElem?_eq_some_iff.mp hi).1
  unfold frzS freeze
  simp only [List.foldl_cons, List.foldl_nil, hi]
  refine ret_ok ?_
  unfold vD
  rw [List.getElem?_set_self hl]
theorem named_eq (b : Int) (fs : List Str) (ts : TL) (hw : ∀ f ∈ fs, isW f) (hn : (fs ++ ts.map (·.1)).Nodup) (hl : (fs ++ ts.map (·.1)).length ≤ 60) :
    f_named_domains [.lst (fs.map (fcD b)), .lst (ts.map (tbD b))] = .ok (.dct (dkeys (fs ++ ts.map (·.1))) ((fs ++ ts.map (·.1)).map fun _ => num b)) := by
  let A : Slot := .sh (.lst (fs.map (fcD b)))
  let T : Slot := .sh (.lst (ts.map (tbD b)))
  have go1 : ∀ (done rest : List Str) (s3 s4 s5 : Slot), (done ++ rest).Nodup → (∀ x ∈ rest, isW x) → (done ++ rest).length ≤ 60 → ∃ s3' s4',
      forL (.tp [3, 4]) (seqS (ifS (orT (notT (tV (callD (gd 1 f_is_word) (consA (vD 3) nilA)))) (tV (bin oIn (bD 3) (bD 2)))) (raiseS 1) skipS) (putS 2 (vD 3) (vD 4))) (rest.map (fcD b))
        [A, T, .od (dkeys done) (done.map fun _ => num b), s3, s4, s5] = .nx [A, T, .od (dkeys (done ++ rest)) ((done ++ rest).map fun _ => num b), s3', s4', s5] := by
    intro done rest
    induction rest generalizing done with
    | nil => exact fun s3 s4 s5 _ _ _ => ⟨s3, s4, by rw [List.append_nil]; rfl⟩
    | cons x rest ih =>
      intro s3 s4 s5 hn hw hl
      have hx : x ∉ done := by
        intro z
        rw [List.nodup_append] at hn
        exact hn.2.2 x z x List.mem_cons_self rfl
      obtain ⟨a, c, e⟩ := ih (done ++ [x]) (.sh (.str x)) (.sh (num b)) s5 (by simpa using hn) (fun y hy => hw y (List.mem_cons_of_mem _ hy)) (by simpa using hl)
      refine ⟨a, c, ?_⟩
      have e' : [A, T, .od (dkeys (done ++ x :: rest)) ((done ++ x :: rest).map fun _ => num b), a, c, s5] = [A, T, .od (dkeys (done ++ [x] ++ rest)) ((done ++ [x] ++ rest).map fun _ => num b), a, c, s5] := by simp
      rw [e', ← e]
      show (match (seqS (ifS (orT (notT (tV (callD (gd 1 f_is_word) (consA (vD 3) nilA)))) (tV (bin oIn (bD 3) (bD 2)))) (raiseS 1) skipS) (putS 2 (vD 3) (vD 4))) [A, T, .od (dkeys done) (done.map fun _ => num b), .sh (.str x), .sh (num b), s5] with
        | .nx ρ' => forL (.tp [3, 4]) (seqS (ifS (orT (notT (tV (callD (gd 1 f_is_word) (consA (vD 3) nilA)))) (tV (bin oIn (bD 3) (bD 2)))) (raiseS 1) skipS) (putS 2 (vD 3) (vD 4))) (rest.map (fcD b)) ρ'
        | .ct ρ' => forL (.tp [3, 4]) (seqS (ifS (orT (notT (tV (callD (gd 1 f_is_word) (consA (vD 3) nilA)))) (tV (bin oIn (bD 3) (bD 2)))) (raiseS 1) skipS) (putS 2 (vD 3) (vD 4))) (rest.map (fcD b)) ρ'
        | .bk ρ' => .nx ρ'
        | o => o) = _
      rw [seq_nx [A, T, .od (dkeys done) (done.map fun _ => num b), .sh (.str x), .sh (num b), s5] (by
        rw [if_ok (b := false) (by
          have e2 := in_dct x done (num b)
          rw [decide_eq_false hx] at e2
          simp [gd, show f_is_word [.str x] = .ok (.bl true) from hw x List.mem_cons_self, e2])]
        rfl)]
      rw [put_ok (ns := done) (x := x) (c := num b) [A, T, .od (dkeys (done ++ [x])) ((done ++ [x]).map fun _ => num b), .sh (.str x), .sh (num b), s5] rfl rfl rfl hx (by
        simp at hl
        omega) rfl]
  have go2 : ∀ (done : List Str) (rest : TL) (s3 s4 s5 : Slot), (done ++ rest.map (·.1)).Nodup → (done ++ rest.map (·.1)).length ≤ 60 → ∃ s5',
      forL (.nm 5) (seqS (ifS (tV (bin oIn (un (fldD [18] 0) (vD 5)) (bD 2))) (raiseS 1) skipS) (putS 2 (un (fldD [18] 0) (vD 5)) (un (fldD [18] 3) (vD 5)))) (rest.map (tbD b))
        [A, T, .od (dkeys done) (done.map fun _ => num b), s3, s4, s5] = .nx [A, T, .od (dkeys (done ++ rest.map (·.1))) ((done ++ rest.map (·.1)).map fun _ => num b), s3, s4, s5'] := by
    intro done rest
    induction rest generalizing done with
    | nil => exact fun s3 s4 s5 _ _ => ⟨s5, by simp only [List.map_nil, List.append_nil]; rfl⟩
    | cons t rest ih =>
      intro s3 s4 s5 hn hl
      obtain ⟨x, hs⟩ := t
      rw [List.map_cons] at hn hl
      have hx : x ∉ done := by
        intro z
        rw [List.nodup_append] at hn
        exact hn.2.2 x z x List.mem_cons_self rfl
      obtain ⟨a, e⟩ := ih (done ++ [x]) s3 s4 (.sh (tbD b (x, hs))) (by simpa using hn) (by simpa using hl)
      refine ⟨a, ?_⟩
      have e' : [A, T, .od (dkeys (done ++ ((x, hs) :: rest).map (·.1))) ((done ++ ((x, hs) :: rest).map (·.1)).map fun _ => num b), s3, s4, a] = [A, T, .od (dkeys (done ++ [x] ++ rest.map (·.1))) ((done ++ [x] ++ rest.map (·.1)).map fun _ => num b), s3, s4, a] := by simp
      rw [e', ← e]
      show (match (seqS (ifS (tV (bin oIn (un (fldD [18] 0) (vD 5)) (bD 2))) (raiseS 1) skipS) (putS 2 (un (fldD [18] 0) (vD 5)) (un (fldD [18] 3) (vD 5)))) [A, T, .od (dkeys done) (done.map fun _ => num b), s3, s4, .sh (tbD b (x, hs))] with
        | .nx ρ' => forL (.nm 5) (seqS (ifS (tV (bin oIn (un (fldD [18] 0) (vD 5)) (bD 2))) (raiseS 1) skipS) (putS 2 (un (fldD [18] 0) (vD 5)) (un (fldD [18] 3) (vD 5)))) (rest.map (tbD b)) ρ'
        | .ct ρ' => forL (.nm 5) (seqS (ifS (tV (bin oIn (un (fldD [18] 0) (vD 5)) (bD 2))) (raiseS 1) skipS) (putS 2 (un (fldD [18] 0) (vD 5)) (un (fldD [18] 3) (vD 5)))) (rest.map (tbD b)) ρ'
        | .bk ρ' => .nx ρ'
        | o => o) = _
      rw [seq_nx [A, T, .od (dkeys done) (done.map fun _ => num b), s3, s4, .sh (tbD b (x, hs))] (by
        rw [if_ok (b := false) (by
          have e2 := in_dct x done (num b)
          rw [decide_eq_false hx] at e2
          refine tV_ok (bin_ok (un_ok rfl rfl) rfl e2))]
        rfl)]
      rw [put_ok (ns := done) (x := x) (c := num b) [A, T, .od (dkeys (done ++ [x])) ((done ++ [x]).map fun _ => num b), s3, s4, .sh (tbD b (x, hs))] rfl rfl rfl hx (by
        simp at hl
        omega) rfl]
  obtain ⟨a, c, e1⟩ := go1 [] fs .no .no .no (by rw [List.nil_append]; exact (List.nodup_append.mp hn).1) hw (by simp at hl ⊢; omega)
  obtain ⟨d, e2⟩ := go2 fs ts a c .no hn hl
  refine runF_of rfl [A, T, .no, .no, .no, .no] rfl ?_
  unfold s_named_domains
  refine (seq_nx [A, T, .od [] [], .no, .no, .no] rfl).trans ?_
  refine (seq_nx _ ((for_ok (ds := fs.map (fcD b)) rfl).trans e1)).trans ?_
  rw [List.nil_append]
  refine (seq_nx _ ((for_ok (ds := ts.map (tbD b)) rfl).trans e2)).trans ?_
  exact frz_retD rfl
end Vi

namespace Vi
open PySem PySem.Spec PyProof.Rows L2
theorem alike_num (b : Int) : f_alike [num b, num b] = .ok (.bl true) := by
  refine runF_of rfl [.sh (num b), .sh (num b)] rfl ?_
  unfold s_alike
  refine (seq_nx [.sh (num b), .sh (num b)] rfl).trans ?_
  refine ret_ok ?_
  have e1 : (isiD [(17, true), (18, false)] (bD 1)) [.sh (num b), .sh (num b)] = .ok (.bl true) := rfl
  have e2 : (bin oEq (un (fldD [9, 10] 0) (vD 0)) (un (fldD [9, 10] 0) (vD 1))) [.sh (num b), .sh (num b)] = .ok (.bl true) := rfl
  have e3 : (bin oEq (un (fldD [9, 10] 1) (vD 0)) (un (fldD [9, 10] 1) (vD 1))) [.sh (num b), .sh (num b)] = .ok (.bl true) := by
    refine bin_ok (un_ok rfl rfl) (un_ok rfl rfl) ?_
    rw [eq_int, decide_eq_true rfl]
  unfold andV
  rw [e1, bind_ok]
  show (andV (bin oEq (un (fldD [9, 10] 0) (vD 0)) (un (fldD [9, 10] 0) (vD 1))) (bin oEq (un (fldD [9, 10] 1) (vD 0)) (un (fldD [9, 10] 1) (vD 1)))) [.sh (num b), .sh (num b)] = _
  unfold andV
  rw [e2, bind_ok]
  exact e3
/-- a body that lets the states of a shape stand as such -/
theorem forL_inv {t : Tg} {body : SS_} (I : Store → Prop) : ∀ (ds : List D) (ρ : Store), I ρ → (∀ ρ d, d ∈ ds → I ρ → ∃ ρ1, t.bind d ρ = some ρ1 ∧ ∃ ρ2, (body ρ1 = .nx ρ2 ∨ body ρ1 = .ct ρ2) ∧ I ρ2) → ∃ ρ', forL t body ds ρ = .nx ρ' ∧ I ρ'
  | [], ρ, i, _ => ⟨ρ, rfl, i⟩
  | d :: ds, ρ, i, h => by
    obtain ⟨ρ1, h1, ρ2, h2, i2⟩ := h ρ d List.mem_cons_self i
    obtain ⟨ρ', e, i'⟩ := forL_inv I ds ρ2 i2 fun ρ d m => h ρ d (List.mem_cons_of_mem _ m)
    refine ⟨ρ', ?_, i'⟩
    simp only [forL, h1]
    rcases h2 with h2 | h2 <;> (rw [h2]; exact e)
theorem columns_eq (b : Int) (ns : List Str) (ts : TL) (h : ∀ t ∈ ts, ∀ x ∈ t.2, x ∈ ns) : f_look_at_columns [.lst (ts.map (tbD b)), .dct (dkeys ns) (ns.map fun _ => num b)] = .ok .non := by
  let A : Slot := .sh (.lst (ts.map (tbD b)))
  let T : Slot := .sh (.dct (dkeys ns) (ns.map fun _ => num b))
  let I : Store → Prop := fun ρ => ∃ s2 s3 s4, ρ = [A, T, s2, s3, s4]
  obtain ⟨ρ1, e1, i1⟩ := forL_inv (t := .nm 2) (body := forS (iterD (un (fldD [18] 1) (vD 2))) (.nm 3) (ifS (tV (bin oNotIn (bD 3) (bD 1))) (raiseS 1) skipS)) I (ts.map (tbD b)) [A, T, .no, .no, .no] ⟨.no, .no, .no, rfl⟩ (by
    rintro ρ d hd ⟨s2, s3, s4, rfl⟩
    obtain ⟨t, ht, rfl⟩ := List.mem_map.mp hd
    refine ⟨_, rfl, ?_⟩
    obtain ⟨ρ', e, i⟩ := forL_inv (t := .nm 3) (body := ifS (tV (bin oNotIn (bD 3) (bD 1))) (raiseS 1) skipS) (fun ρ => ∃ s3 s4, ρ = [A, T, .sh (tbD b t), s3, s4]) (t.2.map D.str) [A, T, .sh (tbD b t), s3, s4] ⟨s3, s4, rfl⟩ (by
      rintro ρ d hd ⟨s3, s4, rfl⟩
      obtain ⟨x, hx, rfl⟩ := List.mem_map.mp hd
      refine ⟨_, rfl, _, .inl (show _ = Out.nx [A, T, .sh (tbD b t), .sh (.str x), s4] from ?_), .sh (.str x), s4, rfl⟩
      rw [if_ok (b := false) (by
        refine tV_ok (bin_ok rfl rfl ?_)
        rw [notIn_dct, decide_eq_true (h t ht x hx)]
        rfl)]
      rfl)
    obtain ⟨a, c, rfl⟩ := i
    exact ⟨_, .inl ((for_ok (ds := t.2.map D.str) rfl).trans e), _, _, _, rfl⟩)
  obtain ⟨a, c, d, rfl⟩ := i1
  obtain ⟨ρ2, e2, i2⟩ := forL_inv (t := .nm 2) (body := forS (zipD (un (fldD [18] 1) (vD 2)) (un (fldD [18] 2) (vD 2))) (.tp [3, 4]) (ifS (notT (tV (callD (gd 2 f_alike) (consA (vD 4) (consA (bin subD (bD 1) (vD 3)) nilA))))) (raiseS 20) skipS)) I (ts.map (tbD b)) [A, T, a, c, d] ⟨a, c, d, rfl⟩ (by
    rintro ρ d hd ⟨s2, s3, s4, rfl⟩
    obtain ⟨t, ht, rfl⟩ := List.mem_map.mp hd
    refine ⟨_, rfl, ?_⟩
    obtain ⟨ρ', e, i⟩ := forL_inv (t := .tp [3, 4]) (body := ifS (notT (tV (callD (gd 2 f_alike) (consA (vD 4) (consA (bin subD (bD 1) (vD 3)) nilA))))) (raiseS 20) skipS) (fun ρ => ∃ s3 s4, ρ = [A, T, .sh (tbD b t), s3, s4]) (t.2.map fun x => .tup [.str x, num b]) [A, T, .sh (tbD b t), s3, s4] ⟨s3, s4, rfl⟩ (by
      rintro ρ d hd ⟨s3, s4, rfl⟩
      obtain ⟨x, hx, rfl⟩ := List.mem_map.mp hd
      refine ⟨_, rfl, _, .inl (show _ = Out.nx [A, T, .sh (tbD b t), .sh (.str x), .sh (num b)] from ?_), .sh (.str x), .sh (num b), rfl⟩
      rw [if_ok (b := false) (by
        exact notT_ok (b := true) (tV_ok (call_ok (ds := [num b, num b]) (consA_ok rfl (consA_ok (bin_ok rfl rfl (sub_dct (num b) (h t ht x hx))) rfl)) rfl (alike_num b))))]
      rfl)
    obtain ⟨a, c, rfl⟩ := i
    refine ⟨_, .inl ((for_ok (ds := t.2.map fun x => .tup [.str x, num b]) ?_).trans e), _, _, _, rfl⟩
    show R.ok (zipL (t.2.map D.str) (t.2.map fun _ => num b)) = _
    rw [zip_map])
  refine runF_nx (ρ' := ρ2) rfl [A, T, .no, .no, .no] rfl ?_
  unfold s_look_at_columns
  refine (seq_nx _ ((for_ok (ds := ts.map (tbD b)) rfl).trans e1)).trans ?_
  exact (for_ok (ds := ts.map (tbD b)) rfl).trans e2
/-! ### rings -/
def freeB (ns st hs : List Str) : Bool := hs.all fun x => !(decide (x ∈ ns) && !decide (x ∈ st))
theorem free_eq (b : Int) (t : Str × List Str) (ns st : List Str) : f_free_of [tbD b t, .lst (ns.map D.str), .lst (st.map D.str)] = .ok (.bl (freeB ns st t.2)) := by
  let r : Slot → Store := fun s3 => [.sh (tbD b t), .sh (.lst (ns.map D.str)), .sh (.lst (st.map D.str)), s3]
  let body : SS_ := ifS (andT (tV (bin oIn (bD 3) (bD 1))) (tV (bin oNotIn (bD 3) (bD 2)))) (retS (cD (.bl false))) skipS
  have hb : ∀ x : Str, body (r (.sh (.str x))) = if (decide (x ∈ ns) && !decide (x ∈ st)) = true then .rt (.bl false) else .nx (r (.sh (.str x))) := by
    intro x
    show ifS _ _ _ _ = _
    rw [if_ok (b := decide (x ∈ ns) && !decide (x ∈ st)) (by
      rw [x_andT, tV_ok (bin_ok rfl rfl (in_strs x ns)), bind_ok]
      cases decide (x ∈ ns) with
      | false => rfl
      | true => exact tV_ok (bin_ok rfl rfl (notIn_strs x st)))]
    rfl
  have go : ∀ (hs : List Str) (s3 : Slot), (∃ s3', forL (.nm 3) body (hs.map D.str) (r s3) = .nx (r s3') ∧ freeB ns st hs = true) ∨ (forL (.nm 3) body (hs.map D.str) (r s3) = .rt (.bl false) ∧ freeB ns st hs = false) := by
    intro hs
    induction hs with
    | nil => exact fun s3 => .inl ⟨s3, rfl, rfl⟩
    | cons x hs ih =>
      intro s3
      have e : forL (.nm 3) body ((x :: hs).map D.str) (r s3) = match body (r (.sh (.str x))) with
        | .nx ρ' => forL (.nm 3) body (hs.map D.str) ρ'
        | .ct ρ' => forL (.nm 3) body (hs.map D.str) ρ'
        | .bk ρ' => .nx ρ'
        | o => o := rfl
      rw [e, hb x]
      cases hc : (decide (x ∈ ns) && !decide (x ∈ st)) with
      | true =>
        refine .inr ⟨rfl, ?_⟩
        unfold freeB
        rw [List.all_cons, hc]
        rfl
      | false =>
        have e3 : freeB ns st (x :: hs) = freeB ns st hs := by
          unfold freeB
          rw [List.all_cons, hc]
          rfl
        rw [e3]
        exact ih (.sh (.str x))
  rcases go t.2 .no with ⟨s3', e, f⟩ | ⟨e, f⟩
  · refine runF_of rfl (r .no) rfl ?_
    unfold s_free_of
    refine (seq_nx _ ((for_ok (ds := t.2.map D.str) rfl).trans e)).trans ?_
    rw [f]
    rfl
  · refine runF_of rfl (r .no) rfl ?_
    unfold s_free_of
    refine (seq_rt ((for_ok (ds := t.2.map D.str) rfl).trans e)).trans ?_
    rw [f]
def passStep (ns : List Str) (q : List Str × Bool) (t : Str × List Str) : List Str × Bool := if t.1 ∉ q.1 ∧ freeB ns q.1 t.2 = true then (q.1 ++ [t.1], true) else q
def passF (ns : List Str) (ts : TL) (st : List Str) : List Str × Bool := ts.foldl (passStep ns) (st, false)
def ringBody : SS_ := (ifS (andT (tV (bin oNotIn (un (fldD [18] 0) (vD 4)) (bD 2))) (tV (lookD (gd 3 f_free_of) (consA (bD 4) (consA (bD 1) (consA (bD 2) nilA))))))
     (seqS (appS 2 (un (fldD [18] 0) (vD 4)))
     (asgS (.nm 3) (cD (.bl true))))
     skipS)
abbrev rSt (b : Int) (ts : TL) (ns : List Str) (q : List Str × Bool) (s4 : Slot) : Store := [.sh (.lst (ts.map (tbD b))), .sh (.lst (ns.map D.str)), .ol (q.1.map D.str), .sh (.bl q.2), s4]
theorem ring_step (b : Int) (ts : TL) (ns : List Str) (q : List Str × Bool) (t : Str × List Str) (hl : q.1.length ≤ 1000) : ringBody (rSt b ts ns q (.sh (tbD b t))) = .nx (rSt b ts ns (passStep ns q t) (.sh (tbD b t))) := by
  unfold ringBody passStep
  refine Eq.trans (if_ok (b := !decide (t.1 ∈ q.1) && freeB ns q.1 t.2) ?_) ?_
  · exact andT_ok (tV_ok (bin_ok (un_ok rfl rfl) rfl (notIn_strs t.1 q.1))) fun _ => tV_ok (look_ok (ds := [tbD b t, .lst (ns.map D.str), .lst (q.1.map D.str)]) rfl rfl (free_eq b t ns q.1) rfl)
  by_cases c : t.1 ∉ q.1 ∧ freeB ns q.1 t.2 = true
  · rw [if_pos (by simp [c.1, c.2]), if_pos c]
    refine Eq.trans (seq_nx (rSt b ts ns (q.1 ++ [t.1], q.2) (.sh (tbD b t))) ?_) rfl
    refine app_ok (xs := q.1.map D.str) (d := .str t.1) _ rfl (un_ok rfl rfl) (by rw [List.length_map]; omega) ?_
    rw [show (rSt b ts ns (q.1 ++ [t.1], q.2) (.sh (tbD b t))) = [.sh (.lst (ts.map (tbD b))), .sh (.lst (ns.map D.str)), .ol ((q.1 ++ [t.1]).map D.str), .sh (.bl q.2), .sh (tbD b t)] from rfl, List.map_append]
    rfl
  · rw [if_neg (by
      intro z
      simp only [Bool.and_eq_true, Bool.not_eq_true', decide_eq_false_iff_not] at z
      exact c z), if_neg c]
    rfl
theorem ring_pass (b : Int) (ts : TL) (ns : List Str) : ∀ (rest : TL) (q : List Str × Bool) (s4 : Slot), q.1.length + rest.length ≤ 1000 → ∃ s4', forL (.nm 4) ringBody (rest.map (tbD b)) (rSt b ts ns q s4) = .nx (rSt b ts ns (rest.foldl (passStep ns) q) s4')
  | [], q, s4, _ => ⟨s4, rfl⟩
  | t :: rest, q, s4, hl => by
    rw [List.length_cons] at hl
    have e := ring_step b ts ns q t (by omega)
    obtain ⟨s4', e2⟩ := ring_pass b ts ns rest (passStep ns q t) (.sh (tbD b t)) (by
      unfold passStep
      split
      · simp only [List.length_append, List.length_cons, List.length_nil]
        omega
      · omega)
    refine ⟨s4', ?_⟩
    show (match ringBody (rSt b ts ns q (.sh (tbD b t))) with
      | .nx ρ' => forL (.nm 4) ringBody (rest.map (tbD b)) ρ'
      | .ct ρ' => forL (.nm 4) ringBody (rest.map (tbD b)) ρ'
      | .bk ρ' => .nx ρ'
      | o => o) = _
    rw [e]
    exact e2
/-- what a pass settles: all of it is a table's name, each once; nothing changes just where nothing was free -/
structure SetOk (ns : List Str) (ts : TL) (st : List Str) : Prop where
  sub : ∀ x ∈ st, x ∈ ts.map (·.1)
  nd : st.Nodup
theorem passStep_ok {ns : List Str} {ts : TL} {q : List Str × Bool} {t : Str × List Str} (ht : t ∈ ts) (h : SetOk ns ts q.1) : SetOk ns ts (passStep ns q t).1 := by
  unfold passStep
  split
  · rename_i c
    refine ⟨fun x hx => ?_, ?_⟩
    · rcases List.mem_append.mp hx with z | z
      · exact h.sub x z
      · rw [List.mem_singleton.mp z]
        exact List.mem_map_of_mem ht
    · rw [List.nodup_append]
      refine ⟨h.nd, by simp, fun a ha c' hc z => ?_⟩
      rw [List.mem_singleton.mp hc] at z
      exact c.1 (z ▸ ha)
  · exact h
theorem pass_ok {ns : List Str} {ts : TL} : ∀ (rest : TL) (q : List Str × Bool), (∀ t ∈ rest, t ∈ ts) → SetOk ns ts q.1 → SetOk ns ts (rest.foldl (passStep ns) q).1
  | [], q, _, h => h
  | t :: rest, q, ht, h => pass_ok rest _ (fun x hx => ht x (List.mem_cons_of_mem _ hx)) (passStep_ok (ht t List.mem_cons_self) h)
/-- again after a pass: it grew; else it stands, and no table was free -/
theorem pass_grow {ns : List Str} : ∀ (rest : TL) (q : List Str × Bool), (∃ more, (rest.foldl (passStep ns) q).1 = q.1 ++ more ∧ ((rest.foldl (passStep ns) q).2 = true → q.2 = false → more ≠ []) ∧ ((rest.foldl (passStep ns) q).2 = false → more = [] ∧ q.2 = false ∧ ∀ t ∈ rest, t.1 ∈ q.1 ∨ freeB ns q.1 t.2 = false))
  | [], q => ⟨[], by simp, fun h1 h2 => absurd (h1.symm.trans h2) (by decide), fun h => ⟨rfl, h, fun t ht => absurd ht List.not_mem_nil⟩⟩
  | t :: rest, q => by
    obtain ⟨more, e1, e2, e3⟩ := pass_grow (ns := ns) rest (passStep ns q t)
    rw [List.foldl_cons]
    by_cases c : t.1 ∉ q.1 ∧ freeB ns q.1 t.2 = true
    · have e : passStep ns q t = (q.1 ++ [t.1], true) := by
        unfold passStep
        rw [if_pos c]
      refine ⟨t.1 :: more, by rw [e1, e]; simp, fun _ _ => by simp, fun h => ?_⟩
      have := (e3 h).2.1
      rw [e] at this
      cases this
    · have e : passStep ns q t = q := by
        unfold passStep
        rw [if_neg c]
      rw [e] at e1 e2 e3 ⊢
      refine ⟨more, e1, e2, fun h => ?_⟩
      obtain ⟨h1, h2, h3⟩ := e3 h
      refine ⟨h1, h2, fun u hu => ?_⟩
      rcases List.mem_cons.mp hu with z | z
      · subst z
        by_cases d : u.1 ∈ q.1
        · exact .inl d
        · refine .inr ?_
          cases f : freeB ns q.1 u.2 with
          | false => rfl
          | true => exact absurd ⟨d, f⟩ c
      · exact h3 u z
theorem set_len {ns : List Str} {ts : TL} {st : List Str} (h : SetOk ns ts st) : st.length ≤ ts.length := by
  have := List.Nodup.length_le_of_subset h.nd fun x hx => h.sub x hx
  rw [List.length_map] at this
  exact this
def ringLoop : SS_ := (seqS (asgS (.nm 3) (cD (.bl false))) (forS (iterD (vD 0)) (.nm 4) ringBody))
theorem s_rings : s_look_for_rings = (seqS (asgS (.nm 1) (lcD (iterD (vD 0)) (.nm 4) yesT (un (fldD [18] 0) (vD 4)) [4]))
  (seqS (ownS 2 nilA)
  (seqS (asgS (.nm 3) (cD (.bl true)))
  (seqS (whileL (tV (vD 3)) ringLoop 100000)
  (ifS (tV (bin oLt (un lenD (bD 2)) (un lenD (bD 0))))
   (raiseS 23)
   skipS))))) := rfl
theorem ring_loop (b : Int) (ts : TL) (ns : List Str) (q : List Str × Bool) (s4 : Slot) (hl : q.1.length + ts.length ≤ 1000) : ∃ s4', ringLoop (rSt b ts ns q s4) = .nx (rSt b ts ns (passF ns ts q.1) s4') := by
  obtain ⟨s4', e⟩ := ring_pass b ts ns ts (q.1, false) s4 hl
  exact ⟨s4', (seq_nx (rSt b ts ns (q.1, false) s4) rfl).trans ((for_ok (ds := ts.map (tbD b)) rfl).trans e)⟩
/-- the settled list at the end -/
structure Settled (ns : List Str) (ts : TL) (st : List Str) : Prop extends SetOk ns ts st where
  fix : ∀ t ∈ ts, t.1 ∈ st ∨ freeB ns st t.2 = false
theorem ring_while (b : Int) (ts : TL) (ns : List Str) (J : List Str → Prop) (hJ : ∀ st, J st → SetOk ns ts st → J (passF ns ts st).1) (hlen : ts.length ≤ 60) : ∀ (n : Nat) (st : List Str) (s4 : Slot), SetOk ns ts st → J st → ts.length + 1 < n + st.length → ∃ st' s4', whileL (tV (vD 3)) ringLoop n (rSt b ts ns (st, true) s4) = .nx (rSt b ts ns (st', false) s4') ∧ Settled ns ts st' ∧ J st'
  | 0, st, s4, h, _, hn => by
    have := set_len h
    omega
  | n + 1, st, s4, h, j, hn => by
    have hs := set_len h
    obtain ⟨s5, e⟩ := ring_loop b ts ns (st, true) s4 (by show st.length + ts.length ≤ 1000; omega)
    have h2 : SetOk ns ts (passF ns ts st).1 := pass_ok ts (st, false) (fun _ z => z) h
    obtain ⟨more, e1, e2, e3⟩ := pass_grow (ns := ns) ts (st, false)
    have e1 : (passF ns ts st).1 = st ++ more := e1
    have e2 : (passF ns ts st).2 = true → more ≠ [] := fun z => e2 z rfl
    have e3 : (passF ns ts st).2 = false → more = [] ∧ false = false ∧ ∀ t ∈ ts, t.1 ∈ st ∨ freeB ns st t.2 = false := e3
    have step : whileL (tV (vD 3)) ringLoop (n + 1) (rSt b ts ns (st, true) s4) = whileL (tV (vD 3)) ringLoop n (rSt b ts ns (passF ns ts st) s5) := by
      show (match ringLoop (rSt b ts ns (st, true) s4) with
        | .nx ρ' => whileL (tV (vD 3)) ringLoop n ρ'
        | .ct ρ' => whileL (tV (vD 3)) ringLoop n ρ'
        | .bk ρ' => .nx ρ'
        | o => o) = _
      rw [e]
    rw [step]
    have ep : passF ns ts st = ((passF ns ts st).1, (passF ns ts st).2) := rfl
    cases hc : (passF ns ts st).2 with
    | true =>
      rw [ep, hc]
      have hm : 0 < more.length := List.length_pos_iff.mpr (e2 hc)
      exact ring_while b ts ns J hJ hlen n _ s5 h2 (hJ st j h) (by rw [e1, List.length_append]; omega)
    | false =>
      obtain ⟨m0, _, fx⟩ := e3 hc
      rw [ep, hc, e1, m0, List.append_nil]
      cases n with
      | zero => omega
      | succ n => exact ⟨st, s5, rfl, ⟨h, fx⟩, j⟩
theorem rings_run (b : Int) (ts : TL) (hlen : ts.length ≤ 60) (J : List Str → Prop) (h0 : J []) (hJ : ∀ st, J st → SetOk (ts.map (·.1)) ts st → J (passF (ts.map (·.1)) ts st).1) : ∃ st, Settled (ts.map (·.1)) ts st ∧ J st ∧
    f_look_for_rings [.lst (ts.map (tbD b))] = if st.length < ts.length then .er 23 else .ok .non := by
  obtain ⟨st, s4, e, hs, j⟩ := ring_while b ts (ts.map (·.1)) J hJ hlen 100000 [] .no ⟨fun _ z => absurd z List.not_mem_nil, List.nodup_nil⟩ h0 (by omega)
  refine ⟨st, hs, j, ?_⟩
  have run : s_look_for_rings [.sh (.lst (ts.map (tbD b))), .no, .no, .no, .no] = if st.length < ts.length then .er 23 (rSt b ts (ts.map (·.1)) (st, false) s4) else .nx (rSt b ts (ts.map (·.1)) (st, false) s4) := by
    rw [s_rings]
    refine (seq_nx [.sh (.lst (ts.map (tbD b))), .sh (.lst ((ts.map (·.1)).map D.str)), .no, .no, .no] (asg_ok _ (lc_ok (ds := ts.map (tbD b)) rfl (by rw [List.length_map]; omega) ((lcL_map (tbD b) (fun _ => true) (fun t => D.str t.1) ts fun a _ => ⟨_, rfl, rfl, fun _ => rfl⟩).trans (by rw [filt_true]))) ?_)).trans ?_
    · simp
    refine (seq_nx [.sh (.lst (ts.map (tbD b))), .sh (.lst ((ts.map (·.1)).map D.str)), .ol [], .no, .no] rfl).trans ?_
    refine (seq_nx (rSt b ts (ts.map (·.1)) ([], true) .no) rfl).trans ?_
    refine (seq_nx _ e).trans ?_
    refine Eq.trans (if_ok (b := decide ((st.length : Int) < ts.length)) ?_) ?_
    · exact tV_ok (bin_ok (d := .int st.length) (e := .int ts.length) (un_ok rfl (by rw [len_lst, List.length_map])) (un_ok rfl (by rw [len_lst, List.length_map])) (lt_int _ _))
    by_cases c : st.length < ts.length
    · rw [if_pos (decide_eq_true (by omega)), if_pos c]
      rfl
    · rw [if_neg (by rw [decide_eq_false (by omega)]; exact Bool.false_ne_true), if_neg c]
      rfl
  by_cases c : st.length < ts.length
  · rw [if_pos c] at run ⊢
    exact runF_er rfl _ rfl run
  · rw [if_neg c] at run ⊢
    exact runF_nx rfl _ rfl run
end Vi

namespace Vi
open PySem PySem.Spec PyProof.Rows L2
/-! ### orders -/
def ordF {α : Type} [DecidableEq α] (ask : α → List α) : Nat → α → List α → List α
  | 0, _, told => told
  | n + 1, x, told => if x ∈ told then told else (ask x).foldl (fun t a => ordF ask n a t) told ++ [x]
theorem ord_len {α : Type} [DecidableEq α] {ask : α → List α} {rank : α → Nat} (h3 : ∀ x, (ask x).length ≤ 3) (hr : ∀ x, ∀ y ∈ ask x, rank y < rank x) : ∀ (n : Nat) (x : α) (told : List α), (ordF ask n x told).length ≤ told.length + 4 ^ rank x
  | 0, x, told => by
    unfold ordF
    exact Nat.le_add_right _ _
  | n + 1, x, told => by
    unfold ordF
    split
    · exact Nat.le_add_right _ _
    · have go : ∀ (as : List α) (t : List α), (∀ a ∈ as, rank a < rank x) → (as.foldl (fun t a => ordF ask n a t) t).length ≤ t.length + as.length * 4 ^ (rank x - 1) := by
        intro as
        induction as with
        | nil => intro t _; simp
        | cons a as ih =>
          intro t h
          have h1 := ord_len h3 hr n a t
          have h2 := ih (ordF ask n a t) fun y hy => h y (List.mem_cons_of_mem _ hy)
          have h4 : 4 ^ rank a ≤ 4 ^ (rank x - 1) := Nat.pow_le_pow_right (by decide) (by have := h a List.mem_cons_self; omega)
          rw [List.foldl_cons, List.length_cons, Nat.succ_mul]
          omega
      have h5 := go (ask x) told (hr x)
      rw [List.length_append, List.length_singleton]
      cases hq : ask x with
      | nil =>
        rw [hq] at h5
        have := Nat.one_le_pow (rank x) 4 (by decide)
        simp at h5 ⊢
        omega
      | cons a as =>
        have hx : 0 < rank x := by
          have := hr x a (by rw [hq]; exact List.mem_cons_self)
          omega
        rw [← hq]
        have e : 4 ^ rank x = 4 * 4 ^ (rank x - 1) := by
          rw [show rank x = rank x - 1 + 1 by omega, Nat.pow_succ, Nat.mul_comm]
          simp
        have := h3 x
        have h6 : (ask x).length * 4 ^ (rank x - 1) ≤ 3 * 4 ^ (rank x - 1) := Nat.mul_le_mul_right _ this
        have := Nat.one_le_pow (rank x - 1) 4 (by decide)
        omega
/-- the names of the numbers -/
theorem ord_map {α β : Type} [DecidableEq α] [DecidableEq β] {ask : α → List α} {askB : β → List β} {f : α → β} {D : α → Prop} (inj : ∀ x y, D x → D y → f x = f y → x = y) (hD : ∀ x, D x → ∀ y ∈ ask x, D y) (hk : ∀ x, D x → askB (f x) = (ask x).map f) :
    ∀ (n : Nat) (x : α) (told : List α), D x → (∀ y ∈ told, D y) → ordF askB n (f x) (told.map f) = (ordF ask n x told).map f ∧ ∀ y ∈ ordF ask n x told, D y
  | 0, x, told, _, ht => ⟨rfl, ht⟩
  | n + 1, x, told, hx, ht => by
    have hm : f x ∈ told.map f ↔ x ∈ told := by
      constructor
      · intro h
        obtain ⟨y, hy, e⟩ := List.mem_map.mp h
        rw [← inj y x (ht y hy) hx e]
        exact hy
      · exact List.mem_map_of_mem
    unfold ordF
    by_cases c : x ∈ told
    · rw [if_pos c, if_pos (hm.mpr c)]
      exact ⟨rfl, ht⟩
    · rw [if_neg c, if_neg (fun z => c (hm.mp z)), hk x hx]
      have go : ∀ (as : List α) (t : List α), (∀ a ∈ as, D a) → (∀ a ∈ t, D a) → (as.map f).foldl (fun t a => ordF askB n a t) (t.map f) = (as.foldl (fun t a => ordF ask n a t) t).map f ∧ ∀ y ∈ as.foldl (fun t a => ordF ask n a t) t, D y := by
        intro as
        induction as with
        | nil => exact fun t _ h => ⟨rfl, h⟩
        | cons a as ih =>
          intro t ha h
          obtain ⟨e1, e2⟩ := ord_map inj hD hk n a t (ha a List.mem_cons_self) h
          rw [List.map_cons, List.foldl_cons, List.foldl_cons, e1]
          exact ih _ (fun y hy => ha y (List.mem_cons_of_mem _ hy)) e2
      obtain ⟨e1, e2⟩ := go (ask x) told (hD x hx) ht
      rw [e1, List.map_append]
      refine ⟨rfl, fun y hy => ?_⟩
      rcases List.mem_append.mp hy with z | z
      · exact e2 y z
      · rw [List.mem_singleton.mp z]
        exact hx
/-! ### the law's own order -/
def intsD (as : List (List Int)) : D := .lst (as.map fun a => .lst (a.map D.int))
def lawBody (rec : List D → R D) : SS_ := (asgS (.nm 2) (callD (gd 3 rec) (consA (vD 0) (consA (vD 3) (consA (vD 2) nilA)))))
theorem s_order (rec : List D → R D) : s__law_order rec = (seqS (ifS (tV (bin oIn (bD 1) (bD 2))) (retS (vD 2)) skipS)
  (seqS (forS (iterD (bin subD (bD 0) (vD 1))) (.nm 3) (lawBody rec)) (retS (bin oAdd (vD 2) (lstD (consA (vD 1) nilA)))))) := rfl
theorem law_order_eq (as : List (List Int)) (ask : Int → List Int) (rank : Int → Nat) (hk : ∀ k : Nat, k < as.length → as[k]? = some (ask k)) (h3 : ∀ x, (ask x).length ≤ 3) (hr : ∀ x, ∀ y ∈ ask x, rank y < rank x) (hy : ∀ k : Nat, k < as.length → ∀ y ∈ ask (k : Int), ∃ j : Nat, y = (j : Int) ∧ j < as.length) :
    ∀ (n k : Nat) (told : List Int), k < as.length → rank k < n → told.length + 4 ^ rank k ≤ 16000000 → f__law_order n [intsD as, .int k, .lst (told.map D.int)] = .ok (.lst ((ordF ask n (k : Int) told).map D.int))
  | 0, k, told, _, h, _ => absurd h (Nat.not_lt_zero _)
  | n + 1, k, told, hl, hn, hb => by
    let A : Slot := .sh (intsD as)
    let K : Slot := .sh (.int k)
    have t1 : tV (bin oIn (bD 1) (bD 2)) [A, K, .sh (.lst (told.map D.int)), .no] = .ok (decide ((k : Int) ∈ told)) := tV_ok (bin_ok rfl rfl (in_ints _ _))
    show runF 4 3 (s__law_order (f__law_order n)) [intsD as, .int k, .lst (told.map D.int)] = _
    refine runF_of rfl [A, K, .sh (.lst (told.map D.int)), .no] rfl ?_
    rw [s_order]
    unfold ordF
    by_cases c : (k : Int) ∈ told
    · rw [if_pos c]
      refine seq_rt ?_
      rw [if_ok t1, if_pos (decide_eq_true c)]
      rfl
    · rw [if_neg c]
      refine Eq.trans (seq_nx [A, K, .sh (.lst (told.map D.int)), .no] ?_) ?_
      · rw [if_ok t1, if_neg (by rw [decide_eq_false c]; exact Bool.false_ne_true)]
        rfl
      have go : ∀ (bs : List Int) (t : List Int) (s3 : Slot), (∀ a ∈ bs, rank a < rank (k : Int) ∧ ∃ j : Nat, a = (j : Int) ∧ j < as.length) → t.length + bs.length * 4 ^ (rank k - 1) ≤ 16000000 → ∃ s3',
          forL (.nm 3) (lawBody (f__law_order n)) (bs.map D.int) [A, K, .sh (.lst (t.map D.int)), s3] = .nx [A, K, .sh (.lst ((bs.foldl (fun t a => ordF ask n a t) t).map D.int)), s3'] := by
        intro bs
        induction bs with
        | nil => exact fun t s3 _ _ => ⟨s3, rfl⟩
        | cons a bs ih =>
          intro t s3 ha hb
          obtain ⟨r1, j, rfl, hj⟩ := ha a List.mem_cons_self
          have h4 : 4 ^ rank (j : Int) ≤ 4 ^ (rank (k : Int) - 1) := Nat.pow_le_pow_right (by decide) (by omega)
          rw [List.length_cons, Nat.succ_mul] at hb
          have e := law_order_eq as ask rank hk h3 hr hy n j t hj (by omega) (by omega)
          have hlen := ord_len h3 hr n (j : Int) t
          obtain ⟨s3', e2⟩ := ih (ordF ask n (j : Int) t) (.sh (.int j)) (fun y hy => ha y (List.mem_cons_of_mem _ hy)) (by omega)
          refine ⟨s3', ?_⟩
          show (match lawBody (f__law_order n) [A, K, .sh (.lst (t.map D.int)), .sh (.int j)] with
            | .nx ρ' => forL (.nm 3) (lawBody (f__law_order n)) (bs.map D.int) ρ'
            | .ct ρ' => forL (.nm 3) (lawBody (f__law_order n)) (bs.map D.int) ρ'
            | .bk ρ' => .nx ρ'
            | o => o) = _
          have e3 : lawBody (f__law_order n) [A, K, .sh (.lst (t.map D.int)), .sh (.int j)] = .nx [A, K, .sh (.lst ((ordF ask n (j : Int) t).map D.int)), .sh (.int j)] := asg_ok _ (call_ok (ds := [intsD as, .int j, .lst (t.map D.int)]) rfl rfl e) rfl
          rw [e3]
          exact e2
      have hp : (ask (k : Int)).length * 4 ^ (rank (k : Int) - 1) + 1 ≤ 4 ^ rank (k : Int) := by
        cases hq : ask (k : Int) with
        | nil =>
          have := Nat.one_le_pow (rank (k : Int)) 4 (by decide)
          simp
          omega
        | cons a bs =>
          have hx : 0 < rank (k : Int) := by
            have := hr k a (by rw [hq]; exact List.mem_cons_self)
            omega
          rw [← hq]
          have e : 4 ^ rank (k : Int) = 4 * 4 ^ (rank (k : Int) - 1) := by
            rw [show rank (k : Int) = rank (k : Int) - 1 + 1 by omega, Nat.pow_succ, Nat.mul_comm]
            simp
          have h6 : (ask (k : Int)).length * 4 ^ (rank (k : Int) - 1) ≤ 3 * 4 ^ (rank (k : Int) - 1) := Nat.mul_le_mul_right _ (h3 k)
          have := Nat.one_le_pow (rank (k : Int) - 1) 4 (by decide)
          omega
      obtain ⟨s3', e⟩ := go (ask k) told .no (fun a ha => ⟨hr k a ha, hy k hl a ha⟩) (by omega)
      refine Eq.trans (seq_nx _ ((for_ok (ds := (ask k).map D.int) ?_).trans e)) ?_
      · show (R.of (subD (intsD as) (.int (k : Int)))).bind (fun d => R.of (itemsD d)) = _
        rw [show subD (intsD as) (.int (k : Int)) = some (.lst ((ask k).map D.int)) from sub_lst (by rw [List.getElem?_map, hk k hl]; rfl)]
        rfl
      · refine ret_ok (bin_ok (e := .lst [.int k]) rfl rfl ?_)
        have hlen := ord_len h3 hr (n + 1) (k : Int) told
        unfold ordF at hlen
        rw [if_neg c, List.length_append, List.length_singleton] at hlen
        rw [add_lst (by rw [List.length_map, List.length_singleton]; omega), List.map_append]
        rfl
end Vi

namespace Vi
open PySem PySem.Spec PyProof.Rows L2
abbrev bkF (b : Int) (fs : List Str) (ts : TL) : List D := [.lst (fs.map (fcD b)), .lst (ts.map (tbD b))]
abbrev bk (b : Int) (fs : List Str) (ts : TL) : D := .obj 24 (bkF b fs ts)
/-- tables that ask by rank are all settled -/
theorem settled_all {ts : TL} {st : List Str} (h : Settled (ts.map (·.1)) ts st) (rank : Str → Nat) (hr : ∀ t ∈ ts, ∀ x ∈ t.2, x ∈ ts.map (·.1) → rank x < rank t.1) (hn : (ts.map (·.1)).Nodup) : ¬ st.length < ts.length := by
  have pick : ∀ hs, freeB (ts.map (·.1)) st hs = false → ∃ x ∈ hs, x ∈ ts.map (·.1) ∧ x ∉ st := by
    intro hs z
    unfold freeB at z
    rw [List.all_eq_false] at z
    obtain ⟨x, hx, hz⟩ := z
    refine ⟨x, hx, ?_⟩
    by_cases a : x ∈ ts.map (·.1)
    · by_cases c : x ∈ st
      · exact absurd (by rw [decide_eq_true a, decide_eq_true c]; rfl) hz
      · exact ⟨a, c⟩
    · exact absurd (by rw [decide_eq_false a]; rfl) hz
  have all : ∀ (n : Nat) (t : Str × List Str), t ∈ ts → rank t.1 ≤ n → t.1 ∈ st := by
    intro n
    induction n with
    | zero =>
      intro t ht hle
      rcases h.fix t ht with z | z
      · exact z
      · obtain ⟨x, hx, h1, h2⟩ := pick _ z
        have := hr t ht x hx h1
        omega
    | succ n ih =>
      intro t ht hle
      rcases h.fix t ht with z | z
      · exact z
      · obtain ⟨x, hx, h1, h2⟩ := pick _ z
        have hlt := hr t ht x hx h1
        obtain ⟨u, hu, e⟩ := List.mem_map.mp h1
        have e : u.1 = x := e
        have := ih u hu (by rw [e]; omega)
        rw [e] at this
        exact absurd this h2
  have hs : ∀ x ∈ ts.map (·.1), x ∈ st := by
    intro x hx
    obtain ⟨t, ht, rfl⟩ := List.mem_map.mp hx
    exact all (rank t.1) t ht (Nat.le_refl _)
  have := List.Nodup.length_le_of_subset hn hs
  rw [List.length_map] at this
  omega
theorem book_ok (b : Int) (fs : List Str) (ts : TL) (hw : ∀ f ∈ fs, isW f) (hn : (fs ++ ts.map (·.1)).Nodup) (hf : fs.length ≤ 20) (ht : ts.length ≤ 30) (hc : ∀ t ∈ ts, ∀ x ∈ t.2, x ∈ fs ++ ts.map (·.1)) (d : D) (hr : f_look_for_rings [.lst (ts.map (tbD b))] = .ok d) : i_Book 24 [] (bkF b fs ts) = .ok (bkF b fs ts) := by
  let r0 : Store := [.sh (.lst (fs.map (fcD b))), .sh (.lst (ts.map (tbD b)))]
  have c1 : ¬ (20 : Int) < fs.length := by omega
  have c2 : ¬ (30 : Int) < ts.length := by omega
  have e1 : (ifS (orT (tV (bin oGt (un lenD (bD 1)) (cD (.int 20)))) (tV (bin oGt (un lenD (bD 2)) (cD (.int 30))))) (raiseS 5) skipS) (.oo 24 [] :: r0) = .nx (.oo 24 [] :: r0) := by
    refine Eq.trans (if_ok (b := false) ?_) rfl
    refine orT_ok (a := false) (b := false) (tV_ok (bin_ok (d := .int fs.length) (un_ok rfl (by rw [len_lst, List.length_map])) rfl ?_)) fun _ => tV_ok (bin_ok (d := .int ts.length) (un_ok rfl (by rw [len_lst, List.length_map])) rfl ?_)
    · rw [gt_int, decide_eq_false c1]
    · rw [gt_int, decide_eq_false c2]
  have e2 : (exprS (callD (gd 2 f_look_at_columns) (consA (vD 2) (consA (callD (gd 2 f_named_domains) (consA (vD 1) (consA (vD 2) nilA))) nilA)))) (.oo 24 [] :: r0) = .nx (.oo 24 [] :: r0) :=
    expr_ok (call_ok (consA_ok rfl (consA_ok (call_ok (ds := bkF b fs ts) rfl rfl (named_eq b fs ts hw hn (by rw [List.length_append, List.length_map]; omega))) rfl)) rfl (columns_eq b _ ts hc))
  have e3 : (exprS (callD (gd 1 f_look_for_rings) (consA (vD 2) nilA))) (.oo 24 [] :: r0) = .nx (.oo 24 [] :: r0) := expr_ok (call_ok (ds := [.lst (ts.map (tbD b))]) rfl rfl hr)
  refine runI_of (r := r0) rfl r0 rfl ?_
  unfold s_Book___init__
  refine (seq_nx _ e1).trans ((seq_nx _ e2).trans ((seq_nx _ e3).trans ?_))
  rfl
theorem book_er (b : Int) (fs : List Str) (ts : TL) (hw : ∀ f ∈ fs, isW f) (hn : (fs ++ ts.map (·.1)).Nodup) (hf : fs.length ≤ 20) (ht : ts.length ≤ 30) (hc : ∀ t ∈ ts, ∀ x ∈ t.2, x ∈ fs ++ ts.map (·.1)) (cc : Nat) (hr : f_look_for_rings [.lst (ts.map (tbD b))] = .er cc) : i_Book 24 [] (bkF b fs ts) = .er cc := by
  let r0 : Store := [.sh (.lst (fs.map (fcD b))), .sh (.lst (ts.map (tbD b)))]
  have c1 : ¬ (20 : Int) < fs.length := by omega
  have c2 : ¬ (30 : Int) < ts.length := by omega
  have e1 : (ifS (orT (tV (bin oGt (un lenD (bD 1)) (cD (.int 20)))) (tV (bin oGt (un lenD (bD 2)) (cD (.int 30))))) (raiseS 5) skipS) (.oo 24 [] :: r0) = .nx (.oo 24 [] :: r0) := by
    refine Eq.trans (if_ok (b := false) ?_) rfl
    refine orT_ok (a := false) (b := false) (tV_ok (bin_ok (d := .int fs.length) (un_ok rfl (by rw [len_lst, List.length_map])) rfl ?_)) fun _ => tV_ok (bin_ok (d := .int ts.length) (un_ok rfl (by rw [len_lst, List.length_map])) rfl ?_)
    · rw [gt_int, decide_eq_false c1]
    · rw [gt_int, decide_eq_false c2]
  have e2 : (exprS (callD (gd 2 f_look_at_columns) (consA (vD 2) (consA (callD (gd 2 f_named_domains) (consA (vD 1) (consA (vD 2) nilA))) nilA)))) (.oo 24 [] :: r0) = .nx (.oo 24 [] :: r0) :=
    expr_ok (call_ok (consA_ok rfl (consA_ok (call_ok (ds := bkF b fs ts) rfl rfl (named_eq b fs ts hw hn (by rw [List.length_append, List.length_map]; omega))) rfl)) rfl (columns_eq b _ ts hc))
  have e3 : (exprS (callD (gd 1 f_look_for_rings) (consA (vD 2) nilA))) (.oo 24 [] :: r0) = .er cc (.oo 24 [] :: r0) := expr_er (call_ok (ds := [.lst (ts.map (tbD b))]) rfl rfl hr)
  refine runI_er rfl r0 rfl (ρ' := .oo 24 [] :: r0) ?_
  unfold s_Book___init__
  exact (seq_nx _ e1).trans ((seq_nx _ e2).trans (seq_er e3))
/-! ### asking a book -/
theorem table_of_in (b : Int) (fs : List Str) (ts : TL) (t : Str × List Str) (ht : t ∈ ts) (hn : (ts.map (·.1)).Nodup) : f_table_of [bk b fs ts, .str t.1] = .ok (tbD b t) := by
  let r : Slot → Store := fun s2 => [.sh (bk b fs ts), .sh (.str t.1), s2]
  let body : SS_ := ifS (tV (bin oEq (un (fldD [18] 0) (vD 2)) (bD 1))) (retS (vD 2)) skipS
  have hb : ∀ u : Str × List Str, body (r (.sh (tbD b u))) = if u.1 = t.1 then .rt (tbD b u) else .nx (r (.sh (tbD b u))) := by
    intro u
    refine Eq.trans (if_ok (b := decide (u.1 = t.1)) (tV_ok (bin_ok (un_ok rfl rfl) rfl (eq_str _ _)))) ?_
    by_cases c : u.1 = t.1
    · rw [if_pos (decide_eq_true c), if_pos c]
      rfl
    · rw [if_neg (by rw [decide_eq_false c]; exact Bool.false_ne_true), if_neg c]
      rfl
  have go : ∀ (us : TL) (s2 : Slot), t ∈ us → (us.map (·.1)).Nodup → forL (.nm 2) body (us.map (tbD b)) (r s2) = .rt (tbD b t) := by
    intro us
    induction us with
    | nil => exact fun s2 h _ => absurd h List.not_mem_nil
    | cons u us ih =>
      intro s2 h hn
      have e : forL (.nm 2) body ((u :: us).map (tbD b)) (r s2) = match body (r (.sh (tbD b u))) with
        | .nx ρ' => forL (.nm 2) body (us.map (tbD b)) ρ'
        | .ct ρ' => forL (.nm 2) body (us.map (tbD b)) ρ'
        | .bk ρ' => .nx ρ'
        | o => o := rfl
      rw [e, hb u]
      rw [List.map_cons, List.nodup_cons] at hn
      rcases List.mem_cons.mp h with z | z
      · subst z
        rw [if_pos rfl]
      · have c : ¬ u.1 = t.1 := fun w => hn.1 (by rw [w]; exact List.mem_map_of_mem z)
        rw [if_neg c]
        exact ih _ z hn.2
  refine runF_of rfl (r .no) rfl ?_
  unfold s_table_of
  exact seq_rt ((for_ok (ds := ts.map (tbD b)) rfl).trans (go ts .no ht hn))
theorem table_of_out (b : Int) (fs : List Str) (ts : TL) (x : Str) (hx : x ∉ ts.map (·.1)) : f_table_of [bk b fs ts, .str x] = .er 25 := by
  let r : Slot → Store := fun s2 => [.sh (bk b fs ts), .sh (.str x), s2]
  let body : SS_ := ifS (tV (bin oEq (un (fldD [18] 0) (vD 2)) (bD 1))) (retS (vD 2)) skipS
  have go : ∀ (us : TL) (s2 : Slot), x ∉ us.map (·.1) → ∃ s2', forL (.nm 2) body (us.map (tbD b)) (r s2) = .nx (r s2') := by
    intro us
    induction us with
    | nil => exact fun s2 _ => ⟨s2, rfl⟩
    | cons u us ih =>
      intro s2 h
      rw [List.map_cons, List.mem_cons, not_or] at h
      obtain ⟨s2', e2⟩ := ih (.sh (tbD b u)) h.2
      refine ⟨s2', ?_⟩
      have hb : body (r (.sh (tbD b u))) = .nx (r (.sh (tbD b u))) := by
        refine Eq.trans (if_ok (b := decide (u.1 = x)) (tV_ok (bin_ok (un_ok rfl rfl) rfl (eq_str _ _)))) ?_
        rw [if_neg (by rw [decide_eq_false (fun z => h.1 z.symm)]; exact Bool.false_ne_true)]
        rfl
      have e : forL (.nm 2) body ((u :: us).map (tbD b)) (r s2) = match body (r (.sh (tbD b u))) with
        | .nx ρ' => forL (.nm 2) body (us.map (tbD b)) ρ'
        | .ct ρ' => forL (.nm 2) body (us.map (tbD b)) ρ'
        | .bk ρ' => .nx ρ'
        | o => o := rfl
      rw [e, hb]
      exact e2
  obtain ⟨s2', e⟩ := go ts .no hx
  refine runF_er rfl (r .no) rfl (ρ' := r s2') ?_
  unfold s_table_of
  exact (seq_nx _ ((for_ok (ds := ts.map (tbD b)) rfl).trans e)).trans rfl
def askS (ts : TL) (t : Str × List Str) : List Str := t.2.filter fun x => decide (x ∈ ts.map (·.1))
theorem asks_in (b : Int) (fs : List Str) (ts : TL) (t : Str × List Str) (ht : t ∈ ts) (hn : (ts.map (·.1)).Nodup) (hl : ts.length ≤ 60) (hl2 : t.2.length ≤ 60) : f_asks [bk b fs ts, .str t.1] = .ok (.lst ((askS ts t).map D.str)) := by
  let N : Slot := .sh (.lst ((ts.map (·.1)).map D.str))
  refine runF_of rfl [.sh (bk b fs ts), .sh (.str t.1), .no, .no, .no] rfl ?_
  unfold s_asks
  refine Eq.trans (seq_nx [.sh (bk b fs ts), .sh (.str t.1), N, .no, .no] (asg_ok (d := .lst ((ts.map (·.1)).map D.str)) _ (lc_ok (ds := ts.map (tbD b)) rfl (by rw [List.length_map]; omega) ((lcL_map (tbD b) (fun _ => true) (fun t => D.str t.1) ts fun a _ => ⟨_, rfl, rfl, fun _ => rfl⟩).trans (by rw [filt_true, List.map_map]; rfl))) rfl)) ?_
  refine ret_ok (lc_ok (ds := t.2.map D.str) ?_ (by rw [List.length_map]; omega) (lcL_map D.str (fun x => decide (x ∈ ts.map (·.1))) D.str t.2 fun x _ => ⟨_, rfl, tV_ok (bin_ok rfl rfl (in_strs _ _)), fun _ => rfl⟩))
  show (R.bind (un (fldD [18] 1) (callD (gd 2 f_table_of) (consA (vD 0) (consA (vD 1) nilA))) [.sh (bk b fs ts), .sh (.str t.1), N, .no, .no]) fun d => R.of (itemsD d)) = _
  have q : un (fldD [18] 1) (callD (gd 2 f_table_of) (consA (vD 0) (consA (vD 1) nilA))) [.sh (bk b fs ts), .sh (.str t.1), N, .no, .no] = .ok (.lst (t.2.map D.str)) := un_ok (call_ok (ds := [bk b fs ts, .str t.1]) rfl rfl (table_of_in b fs ts t ht hn)) rfl
  rw [q]
  rfl
theorem asks_out (b : Int) (fs : List Str) (ts : TL) (x : Str) (hx : x ∉ ts.map (·.1)) (hl : ts.length ≤ 60) : f_asks [bk b fs ts, .str x] = .er 25 := by
  let N : Slot := .sh (.lst ((ts.map (·.1)).map D.str))
  refine runF_er rfl [.sh (bk b fs ts), .sh (.str x), .no, .no, .no] rfl (ρ' := [.sh (bk b fs ts), .sh (.str x), N, .no, .no]) ?_
  unfold s_asks
  refine Eq.trans (seq_nx [.sh (bk b fs ts), .sh (.str x), N, .no, .no] (asg_ok (d := .lst ((ts.map (·.1)).map D.str)) _ (lc_ok (ds := ts.map (tbD b)) rfl (by rw [List.length_map]; omega) ((lcL_map (tbD b) (fun _ => true) (fun t => D.str t.1) ts fun a _ => ⟨_, rfl, rfl, fun _ => rfl⟩).trans (by rw [filt_true, List.map_map]; rfl))) rfl)) ?_
  have e : lcD (iterD (un (fldD [18] 1) (callD (gd 2 f_table_of) (consA (vD 0) (consA (vD 1) nilA))))) (.nm 4) (tV (bin oIn (bD 4) (bD 2))) (vD 4) [4] [.sh (bk b fs ts), .sh (.str x), N, .no, .no] = .er 25 := by
    have q : callD (gd 2 f_table_of) (consA (vD 0) (consA (vD 1) nilA)) [.sh (bk b fs ts), .sh (.str x), N, .no, .no] = .er 25 := call_ok (ds := [bk b fs ts, .str x]) rfl rfl (table_of_out b fs ts x hx)
    unfold lcD
    rw [x_iterD, x_un, q]
    rfl
  rw [x_retS, e, then_er]
end Vi

namespace Vi
open PySem PySem.Spec PyProof.Rows L2
theorem ord_fuel {α : Type} [DecidableEq α] {ask : α → List α} {rank : α → Nat} (hr : ∀ x, ∀ y ∈ ask x, rank y < rank x) : ∀ (n m : Nat) (x : α) (told : List α), rank x < n → rank x < m → ordF ask n x told = ordF ask m x told
  | 0, _, _, _, h, _ => absurd h (Nat.not_lt_zero _)
  | _ + 1, 0, _, _, _, h => absurd h (Nat.not_lt_zero _)
  | n + 1, m + 1, x, told, h1, h2 => by
    have go : ∀ (as : List α) (t : List α), (∀ a ∈ as, rank a < rank x) → as.foldl (fun t a => ordF ask n a t) t = as.foldl (fun t a => ordF ask m a t) t := by
      intro as
      induction as with
      | nil => exact fun _ _ => rfl
      | cons a as ih =>
        intro t h
        have ha := h a List.mem_cons_self
        rw [List.foldl_cons, List.foldl_cons, ord_fuel hr n m a t (by omega) (by omega)]
        exact ih _ fun y hy => h y (List.mem_cons_of_mem _ hy)
    unfold ordF
    rw [go (ask x) told (hr x)]
structure BookOk (b : Int) (fs : List Str) (ts : TL) (ask : Str → List Str) (rank : Str → Nat) : Prop where
  nd : (ts.map (·.1)).Nodup
  len : ts.length ≤ 60
  len2 : ∀ t ∈ ts, t.2.length ≤ 60
  ak : ∀ t ∈ ts, ask t.1 = askS ts t
  h3 : ∀ x, (ask x).length ≤ 3
  hr : ∀ x, ∀ y ∈ ask x, rank y < rank x
def gathBody (rec : List D → R D) : SS_ := (asgS (.nm 2) (callD (gd 3 rec) (consA (vD 0) (consA (vD 3) (consA (vD 2) nilA)))))
theorem s_gath (rec : List D → R D) : s_gathered rec = (seqS (ifS (tV (bin oIn (bD 1) (bD 2))) (retS (vD 2)) skipS)
  (seqS (forS (iterD (callD (gd 2 f_asks) (consA (vD 0) (consA (vD 1) nilA)))) (.nm 3) (gathBody rec)) (retS (bin oAdd (vD 2) (lstD (consA (vD 1) nilA)))))) := rfl
section
variable {b : Int} {fs : List Str} {ts : TL} {ask : Str → List Str} {rank : Str → Nat}
theorem ask_name (B : BookOk b fs ts ask rank) {x y : Str} (hx : x ∈ ts.map (·.1)) (hy : y ∈ ask x) : y ∈ ts.map (·.1) := by
  obtain ⟨t, ht, rfl⟩ := List.mem_map.mp hx
  rw [B.ak t ht] at hy
  exact of_decide_eq_true (List.mem_filter.mp hy).2
theorem four (B : BookOk b fs ts ask rank) (x : Str) : (ask x).length * 4 ^ (rank x - 1) + 1 ≤ 4 ^ rank x := by
  cases hq : ask x with
  | nil =>
    have := Nat.one_le_pow (rank x) 4 (by decide)
    simp
    omega
  | cons a bs =>
    have hx : 0 < rank x := by
      have := B.hr x a (by rw [hq]; exact List.mem_cons_self)
      omega
    rw [← hq]
    have e : 4 ^ rank x = 4 * 4 ^ (rank x - 1) := by
      rw [show rank x = rank x - 1 + 1 by omega, Nat.pow_succ, Nat.mul_comm]
      simp
    have h6 : (ask x).length * 4 ^ (rank x - 1) ≤ 3 * 4 ^ (rank x - 1) := Nat.mul_le_mul_right _ (B.h3 x)
    have := Nat.one_le_pow (rank x - 1) 4 (by decide)
    omega
theorem gath_loop (B : BookOk b fs ts ask rank) (n : Nat) (rec : ∀ (x : Str) (told : List Str), x ∈ ts.map (·.1) → rank x < n → told.length + 4 ^ rank x ≤ 16000000 → f_gathered n [bk b fs ts, .str x, .lst (told.map D.str)] = .ok (.lst ((ordF ask n x told).map D.str)))
    (x : Str) (hn : rank x < n + 1) : ∀ (bs : List Str) (t : List Str) (s3 : Slot), (∀ a ∈ bs, rank a < rank x ∧ a ∈ ts.map (·.1)) → t.length + bs.length * 4 ^ (rank x - 1) ≤ 16000000 → ∃ s3',
          forL (.nm 3) (gathBody (f_gathered n)) (bs.map D.str) [.sh (bk b fs ts), .sh (.str x), .sh (.lst (t.map D.str)), s3] = .nx [.sh (bk b fs ts), .sh (.str x), .sh (.lst ((bs.foldl (fun t a => ordF ask n a t) t).map D.str)), s3']
  | [], t, s3, _, _ => ⟨s3, rfl⟩
  | a :: bs, t, s3, ha, hb => by
    obtain ⟨r1, hj⟩ := ha a List.mem_cons_self
    have h4 : 4 ^ rank a ≤ 4 ^ (rank x - 1) := Nat.pow_le_pow_right (by decide) (by omega)
    rw [List.length_cons, Nat.succ_mul] at hb
    have e := rec a t hj (by omega) (by omega)
    have hlen := ord_len B.h3 B.hr n a t
    obtain ⟨s3', e2⟩ := gath_loop B n rec x hn bs (ordF ask n a t) (.sh (.str a)) (fun y hy => ha y (List.mem_cons_of_mem _ hy)) (by omega)
    refine ⟨s3', ?_⟩
    show (match gathBody (f_gathered n) [.sh (bk b fs ts), .sh (.str x), .sh (.lst (t.map D.str)), .sh (.str a)] with
      | .nx ρ' => forL (.nm 3) (gathBody (f_gathered n)) (bs.map D.str) ρ'
      | .ct ρ' => forL (.nm 3) (gathBody (f_gathered n)) (bs.map D.str) ρ'
      | .bk ρ' => .nx ρ'
      | o => o) = _
    have e3 : gathBody (f_gathered n) [.sh (bk b fs ts), .sh (.str x), .sh (.lst (t.map D.str)), .sh (.str a)] = .nx [.sh (bk b fs ts), .sh (.str x), .sh (.lst ((ordF ask n a t).map D.str)), .sh (.str a)] := asg_ok _ (call_ok (ds := [bk b fs ts, .str a, .lst (t.map D.str)]) rfl rfl e) rfl
    rw [e3]
    exact e2
theorem asks_it (B : BookOk b fs ts ask rank) {x : Str} (hx : x ∈ ts.map (·.1)) (s2 s3 : Slot) : iterD (callD (gd 2 f_asks) (consA (vD 0) (consA (vD 1) nilA))) [.sh (bk b fs ts), .sh (.str x), s2, s3] = .ok ((ask x).map D.str) := by
  obtain ⟨t, ht, rfl⟩ := List.mem_map.mp hx
  have q : callD (gd 2 f_asks) (consA (vD 0) (consA (vD 1) nilA)) [.sh (bk b fs ts), .sh (.str t.1), s2, s3] = .ok (.lst ((ask t.1).map D.str)) := by
    rw [B.ak t ht]
    exact call_ok (ds := [bk b fs ts, .str t.1]) rfl rfl (asks_in b fs ts t ht B.nd B.len (B.len2 t ht))
  rw [x_iterD]
  show (R.bind (callD (gd 2 f_asks) (consA (vD 0) (consA (vD 1) nilA)) [.sh (bk b fs ts), .sh (.str t.1), s2, s3]) fun d => R.of (itemsD d)) = _
  rw [q]
  rfl
theorem gath_eq (B : BookOk b fs ts ask rank) : ∀ (n : Nat) (x : Str) (told : List Str), x ∈ ts.map (·.1) → rank x < n → told.length + 4 ^ rank x ≤ 16000000 → f_gathered n [bk b fs ts, .str x, .lst (told.map D.str)] = .ok (.lst ((ordF ask n x told).map D.str))
  | 0, _, _, _, h, _ => absurd h (Nat.not_lt_zero _)
  | n + 1, x, told, hx, hn, hb => by
    have t1 : tV (bin oIn (bD 1) (bD 2)) [.sh (bk b fs ts), .sh (.str x), .sh (.lst (told.map D.str)), .no] = .ok (decide (x ∈ told)) := tV_ok (bin_ok rfl rfl (in_strs _ _))
    show runF 4 3 (s_gathered (f_gathered n)) [bk b fs ts, .str x, .lst (told.map D.str)] = _
    refine runF_of rfl [.sh (bk b fs ts), .sh (.str x), .sh (.lst (told.map D.str)), .no] rfl ?_
    rw [s_gath]
    unfold ordF
    by_cases c : x ∈ told
    · rw [if_pos c]
      refine seq_rt ?_
      rw [if_ok t1, if_pos (decide_eq_true c)]
      rfl
    · rw [if_neg c]
      refine Eq.trans (seq_nx [.sh (bk b fs ts), .sh (.str x), .sh (.lst (told.map D.str)), .no] ?_) ?_
      · rw [if_ok t1, if_neg (by rw [decide_eq_false c]; exact Bool.false_ne_true)]
        rfl
      have h4 := four B x
      obtain ⟨s3', e⟩ := gath_loop B n (gath_eq B n) x hn (ask x) told .no (fun a ha => ⟨B.hr x a ha, ask_name B hx ha⟩) (by omega)
      refine Eq.trans (seq_nx _ ((for_ok (asks_it B hx _ _)).trans e)) ?_
      refine ret_ok (bin_ok (e := .lst [.str x]) rfl rfl ?_)
      have hlen := ord_len B.h3 B.hr (n + 1) x told
      unfold ordF at hlen
      rw [if_neg c, List.length_append, List.length_singleton] at hlen
      rw [add_lst (by rw [List.length_map, List.length_singleton]; omega), List.map_append]
      rfl
theorem n_gath_eq (B : BookOk b fs ts ask rank) (x : Str) (hx : x ∈ ts.map (·.1)) (hn : rank x < 12) : n_gathered [bk b fs ts, .str x, .lst []] = .ok ((ordF ask 41 x []).map D.str) := by
  have hp : 4 ^ rank x ≤ 4 ^ 11 := Nat.pow_le_pow_right (by decide) (by omega)
  have hp : 4 ^ rank x ≤ 4194304 := hp
  refine runN_of rfl [.sh (bk b fs ts), .sh (.str x), .sh (.lst []), .no] rfl ?_
  have h4 := four B x
  obtain ⟨s3', e⟩ := gath_loop B 40 (gath_eq B 40) x (by omega) (ask x) [] .no (fun a ha => ⟨B.hr x a ha, ask_name B hx ha⟩) (by simp; omega)
  have s : s_gathered_n = (seqS (ifS (tV (bin oIn (bD 1) (bD 2))) (retS (vD 2)) skipS)
    (seqS (forS (iterD (callD (gd 2 f_asks) (consA (vD 0) (consA (vD 1) nilA)))) (.nm 3) (gathBody (f_gathered 40))) (retNewS (addN (vD 2) (lstD (consA (vD 1) nilA)))))) := rfl
  rw [s]
  refine Eq.trans (seq_nx [.sh (bk b fs ts), .sh (.str x), .sh (.lst []), .no] rfl) ?_
  refine Eq.trans (seq_nx _ ((for_ok (asks_it B hx _ _)).trans e)) ?_
  have o : ordF ask 41 x [] = (ask x).foldl (fun t a => ordF ask 40 a t) [] ++ [x] := by
    show (if x ∈ ([] : List Str) then ([] : List Str) else (ask x).foldl (fun t a => ordF ask 40 a t) [] ++ [x]) = _
    rw [if_neg List.not_mem_nil]
  have hlen := ord_len B.h3 B.hr 41 x []
  rw [o, List.length_append, List.length_singleton] at hlen
  rw [o, List.map_append]
  have z : small (((ask x).foldl (fun t a => ordF ask 40 a t) []).map D.str ++ [D.str x]).length = true := x_small (by rw [List.length_append, List.length_map, List.length_singleton]; simp at hlen; omega)
  have q : addN (vD 2) (lstD (consA (vD 1) nilA)) [.sh (bk b fs ts), .sh (.str x), .sh (.lst (((ask x).foldl (fun t a => ordF ask 40 a t) []).map D.str)), s3'] = .ok (((ask x).foldl (fun t a => ordF ask 40 a t) []).map D.str ++ [D.str x]) := by
    rw [List.length_append] at z
    show (if small ((((ask x).foldl (fun t a => ordF ask 40 a t) []).map D.str).length + [D.str x].length) = true then R.ok (((ask x).foldl (fun t a => ordF ask 40 a t) []).map D.str ++ [D.str x]) else .bad) = _
    rw [if_pos z]
  rw [x_retNewS, q, then_ok]
  rfl
theorem order_eq (B : BookOk b fs ts ask rank) (x : Str) (hx : x ∈ ts.map (·.1)) (hn : rank x < 12) : f_order_of [bk b fs ts, .str x] = .ok (.lst ((ordF ask 40 x []).map D.str)) := by
  have hp : 4 ^ rank x ≤ 4 ^ 11 := Nat.pow_le_pow_right (by decide) (by omega)
  have hp : 4 ^ rank x ≤ 4194304 := hp
  refine runF_of rfl [.sh (bk b fs ts), .sh (.str x)] rfl ?_
  unfold s_order_of
  exact ret_ok (call_ok (ds := [bk b fs ts, .str x, .lst []]) rfl rfl (gath_eq B 40 x [] hx (by omega) (by simp; omega)))
theorem n_order_eq (B : BookOk b fs ts ask rank) (x : Str) (hx : x ∈ ts.map (·.1)) (hn : rank x < 12) : n_order_of [bk b fs ts, .str x] = .ok ((ordF ask 40 x []).map D.str) := by
  rw [ord_fuel B.hr 40 41 x [] (by omega) (by omega)]
  refine runN_of rfl [.sh (bk b fs ts), .sh (.str x)] rfl ?_
  unfold s_order_of_n
  have q : callN (gdN 3 n_gathered) (consA (vD 0) (consA (vD 1) (consA (lstD nilA) nilA))) [.sh (bk b fs ts), .sh (.str x)] = .ok ((ordF ask 41 x []).map D.str) := n_gath_eq B x hx hn
  rw [x_retNewS, q, then_ok]
theorem order_out (b : Int) (fs : List Str) (ts : TL) (x : Str) (hx : x ∉ ts.map (·.1)) (hl : ts.length ≤ 60) : f_order_of [bk b fs ts, .str x] = .er 25 := by
  have g : f_gathered 40 [bk b fs ts, .str x, .lst []] = .er 25 := by
    show runF 4 3 (s_gathered (f_gathered 39)) [bk b fs ts, .str x, .lst []] = _
    refine runF_er rfl [.sh (bk b fs ts), .sh (.str x), .sh (.lst []), .no] rfl (ρ' := [.sh (bk b fs ts), .sh (.str x), .sh (.lst []), .no]) ?_
    rw [s_gath]
    refine Eq.trans (seq_nx [.sh (bk b fs ts), .sh (.str x), .sh (.lst []), .no] rfl) ?_
    have q : callD (gd 2 f_asks) (consA (vD 0) (consA (vD 1) nilA)) [.sh (bk b fs ts), .sh (.str x), .sh (.lst []), .no] = .er 25 := call_ok (ds := [bk b fs ts, .str x]) rfl rfl (asks_out b fs ts x hx hl)
    refine seq_er ?_
    rw [x_forS, x_iterD, q]
    rfl
  refine runF_er rfl [.sh (bk b fs ts), .sh (.str x)] rfl (ρ' := [.sh (bk b fs ts), .sh (.str x)]) ?_
  unfold s_order_of
  have q : callD (gd 3 (f_gathered 40)) (consA (vD 0) (consA (vD 1) (consA (lstD nilA) nilA))) [.sh (bk b fs ts), .sh (.str x)] = .er 25 := call_ok (ds := [bk b fs ts, .str x, .lst []]) rfl rfl g
  rw [x_retS, q, then_er]
theorem no_table_eq (b : Int) (fs : List Str) (ts : TL) (x : Str) (hx : x ∉ ts.map (·.1)) (hl : ts.length ≤ 60) : f__law_no_table [bk b fs ts, .str x] = .ok (.bl true) := by
  refine runF_of rfl [.sh (bk b fs ts), .sh (.str x), .no] rfl ?_
  unfold s__law_no_table
  refine Eq.trans (seq_nx [.sh (bk b fs ts), .sh (.str x), .sh (.bl false)] rfl) ?_
  refine Eq.trans (seq_nx [.sh (bk b fs ts), .sh (.str x), .sh (.bl true)] ?_) rfl
  have q : exprS (callD (gd 2 f_order_of) (consA (vD 0) (consA (vD 1) nilA))) [.sh (bk b fs ts), .sh (.str x), .sh (.bl false)] = .er 25 [.sh (bk b fs ts), .sh (.str x), .sh (.bl false)] := expr_er (call_ok (ds := [bk b fs ts, .str x]) rfl rfl (order_out b fs ts x hx hl))
  unfold tryS
  rw [q]
  rfl
end
end Vi

namespace Vi
open PySem PySem.Spec PyProof.Rows L2
/-! ### the law's data -/
def factT : List Str := ["when", "b", "fact", "ab"]
def nm (j : Nat) : Str := nameT.getD j ""
theorem isW_nm (j : Nat) (h : j < 12) : isW (nm j) := by
  obtain rfl | rfl | rfl | rfl | rfl | rfl | rfl | rfl | rfl | rfl | rfl | rfl : j = 0 ∨ j = 1 ∨ j = 2 ∨ j = 3 ∨ j = 4 ∨ j = 5 ∨ j = 6 ∨ j = 7 ∨ j = 8 ∨ j = 9 ∨ j = 10 ∨ j = 11 := by omega
  all_goals (unfold isW; kernel_rfl)
theorem isW_fact (f : Str) (h : f ∈ factT) : isW f := by
  unfold factT at h
  simp only [List.mem_cons, List.not_mem_nil, or_false] at h
  rcases h with rfl | rfl | rfl | rfl
  all_goals (unfold isW; kernel_rfl)
theorem nm_inj : ∀ i < 12, ∀ j < 12, nm i = nm j → i = j := by decide +kernel
theorem nm_fact : ∀ i < 12, ∀ f ∈ factT, nm i ≠ f := by decide +kernel
theorem nm_q : ∀ i < 12, nm i ≠ nm 0 ++ "q" := by decide +kernel
theorem nm_ok : ∀ i < 12, PyData.strOk (nm i) = true := by decide +kernel
theorem fact_nd : factT.Nodup := by decide +kernel
theorem ask_props (n k most : Int) (h0 : 0 < most) : (∀ y ∈ askF n k most false, 0 ≤ y ∧ y < k) ∧ (askF n k most false).Nodup ∧ (askF n k most false).length ≤ 3 := by
  have go : ∀ (js : List Nat) (b : Int × List Int × Slot × Slot), (∀ y ∈ b.2.1, 0 ≤ y ∧ y < k) ∧ b.2.1.Nodup → (∀ y ∈ (js.foldl (askStep k most false) b).2.1, 0 ≤ y ∧ y < k) ∧ (js.foldl (askStep k most false) b).2.1.Nodup ∧ (js.foldl (askStep k most false) b).2.1.length ≤ b.2.1.length + js.length := by
    intro js
    induction js with
    | nil => exact fun b h => ⟨h.1, h.2, Nat.le_refl _⟩
    | cons j js ih =>
      intro b h
      rw [List.foldl_cons]
      have st : ((∀ y ∈ (askStep k most false b j).2.1, 0 ≤ y ∧ y < k) ∧ (askStep k most false b j).2.1.Nodup) ∧ (askStep k most false b j).2.1.length ≤ b.2.1.length + 1 := by
        unfold askStep
        by_cases c : b.1 % most ≠ k ∧ b.1 % most ∉ b.2.1 ∧ (b.1 % most < k ∨ false = true)
        · simp only [if_pos c]
          refine ⟨⟨fun y hy => ?_, ?_⟩, by rw [List.length_append]; exact Nat.le_refl _⟩
          · rcases List.mem_append.mp hy with z | z
            · exact h.1 y z
            · rw [List.mem_singleton.mp z]
              refine ⟨Int.emod_nonneg _ (by omega), ?_⟩
              rcases c.2.2 with w | w
              · exact w
              · cases w
          · rw [List.nodup_append]
            refine ⟨h.2, by simp, fun a ha d hd z => ?_⟩
            rw [List.mem_singleton.mp hd] at z
            exact c.2.1 (z ▸ ha)
        · simp only [if_neg c]
          exact ⟨h, Nat.le_succ _⟩
      obtain ⟨e1, e2, e3⟩ := ih _ st.1
      refine ⟨e1, e2, ?_⟩
      rw [List.length_cons]
      have := st.2
      omega
  obtain ⟨e1, e2, e3⟩ := go (List.range' 0 3) (n, [], .no, .no) ⟨fun y hy => absurd hy List.not_mem_nil, List.nodup_nil⟩
  exact ⟨e1, e2, e3⟩
section
variable (ms : List Int) (most nf : Nat)
def aks (k : Nat) : List Int := askF (ms.getD k 0) k most false
def nmI (i : Int) : Str := nm i.toNat
def factOf (k : Nat) : Str := (factT.take nf).getD (ms.getD k 0 / 21 % (nf : Int)).toNat ""
def headsOf (k : Nat) : List Str := if ms.getD k 0 / 7 % 3 = 0 ∨ aks ms most k = [] then factOf ms nf k :: (aks ms most k).map nmI else if ms.getD k 0 / 7 % 3 = 1 then (aks ms most k).map nmI ++ [factOf ms nf k] else (aks ms most k).map nmI
def ts0 : TL := (List.range' 0 most).map fun k => (nm k, headsOf ms most nf k)
end
section
variable {ms : List Int} {most nf : Nat}
theorem fact_mem (h1 : 0 < nf) (h2 : nf ≤ 4) (k : Nat) : factOf ms nf k ∈ factT.take nf := by
  have hl : (factT.take nf).length = nf := by
    rw [List.length_take]
    show min nf 4 = nf
    omega
  have hlt : (ms.getD k 0 / 21 % (nf : Int)).toNat < (factT.take nf).length := by
    rw [hl]
    have := Int.emod_lt_of_pos (ms.getD k 0 / 21) (by omega : (0 : Int) < nf)
    have := Int.emod_nonneg (ms.getD k 0 / 21) (by omega : (nf : Int) ≠ 0)
    omega
  unfold factOf
  rw [List.getD_eq_getElem?_getD, List.getElem?_eq_getElem hlt]
  exact List.getElem_mem hlt
theorem aks_name (h0 : 0 < most) {k : Nat} {x : Str} (hx : x ∈ (aks ms most k).map nmI) : ∃ j, j < k ∧ x = nm j := by
  obtain ⟨y, hy, rfl⟩ := List.mem_map.mp hx
  have := (ask_props (ms.getD k 0) k most (by omega)).1 y hy
  exact ⟨y.toNat, by omega, rfl⟩
theorem heads_mem (h0 : 0 < most) (h1 : 0 < nf) (h2 : nf ≤ 4) {k : Nat} {x : Str} (hx : x ∈ headsOf ms most nf k) : x ∈ factT.take nf ∨ x ∈ (aks ms most k).map nmI := by
  have hf := fact_mem (ms := ms) h1 h2 k
  unfold headsOf at hx
  split at hx
  · rcases List.mem_cons.mp hx with z | z
    · exact .inl (z ▸ hf)
    · exact .inr z
  · split at hx
    · rcases List.mem_append.mp hx with z | z
      · exact .inr z
      · exact .inl (List.mem_singleton.mp z ▸ hf)
    · exact .inr hx
theorem aks_nd (h0 : 0 < most) {k : Nat} (hk : k ≤ 12) : ((aks ms most k).map nmI).Nodup := by
  have hp := ask_props (ms.getD k 0) k most (by omega)
  unfold List.Nodup
  rw [List.pairwise_map]
  refine List.Pairwise.imp_of_mem ?_ hp.2.1
  intro a b ha hb ne e
  have h1 := hp.1 a ha
  have h2 := hp.1 b hb
  have := nm_inj a.toNat (by omega) b.toNat (by omega) e
  exact ne (by omega)
theorem heads_ok (h0 : 0 < most) (h1 : 0 < nf) (h2 : nf ≤ 4) {k : Nat} (hk : k < 12) : (∀ x ∈ headsOf ms most nf k, isW x) ∧ (nm k :: headsOf ms most nf k).Nodup ∧ (headsOf ms most nf k).length ≤ 4 ∧ 0 < (headsOf ms most nf k).length := by
  have hp := ask_props (ms.getD k 0) k most (by omega)
  have hf := List.mem_of_mem_take (fact_mem (ms := ms) h1 h2 k)
  have hnf : factOf ms nf k ∉ (aks ms most k).map nmI := fun z => by
    obtain ⟨j, hj, e⟩ := aks_name h0 z
    exact nm_fact j (by omega) _ hf e.symm
  have hnd := aks_nd (ms := ms) h0 (by omega : k ≤ 12)
  have hlen : ((aks ms most k).map nmI).length ≤ 3 := by
    rw [List.length_map]
    exact hp.2.2
  refine ⟨fun x hx => ?_, ?_, ?_, ?_⟩
  · rcases heads_mem h0 h1 h2 hx with z | z
    · exact isW_fact x (List.mem_of_mem_take z)
    · obtain ⟨j, hj, rfl⟩ := aks_name h0 z
      exact isW_nm j (by omega)
  · rw [List.nodup_cons]
    refine ⟨fun z => ?_, ?_⟩
    · rcases heads_mem h0 h1 h2 z with w | w
      · exact nm_fact k hk _ (List.mem_of_mem_take w) rfl
      · obtain ⟨j, hj, e⟩ := aks_name h0 w
        have := nm_inj k hk j (by omega) e
        omega
    · unfold headsOf
      split
      · exact List.nodup_cons.mpr ⟨hnf, hnd⟩
      · split
        · rw [List.nodup_append]
          refine ⟨hnd, by simp, fun a ha d hd z => ?_⟩
          rw [List.mem_singleton.mp hd] at z
          exact hnf (z ▸ ha)
        · exact hnd
  · unfold headsOf
    split
    · rw [List.length_cons]
      omega
    · split
      · rw [List.length_append, List.length_singleton]
        omega
      · omega
  · unfold headsOf
    split
    · rw [List.length_cons]
      omega
    · rename_i c
      have : 0 < ((aks ms most k).map nmI).length := by
        rw [List.length_map]
        exact List.length_pos_iff.mpr fun z => c (.inr z)
      split
      · rw [List.length_append]
        omega
      · exact this
end
end Vi

namespace Vi
open PySem PySem.Spec PyProof.Rows L2
section
variable {ms : List Int} {most nf : Nat}
/-- the tables, turned about -/
def turned {α : Type} (l : List α) (t : Nat) : List α := l.drop t ++ l.take t
theorem mem_turned {α : Type} {l : List α} {t : Nat} {x : α} : x ∈ turned l t ↔ x ∈ l := by
  unfold turned
  rw [List.mem_append]
  constructor
  · rintro (h | h)
    · exact List.mem_of_mem_drop h
    · exact List.mem_of_mem_take h
  · intro h
    rw [← List.take_append_drop t l] at h
    rcases List.mem_append.mp h with h | h
    · exact .inr h
    · exact .inl h
theorem turned_perm {α : Type} (l : List α) (t : Nat) : (turned l t).Perm l := by
  unfold turned
  have := List.perm_append_comm (l₁ := l.drop t) (l₂ := l.take t)
  rw [List.take_append_drop] at this
  exact this
theorem ts_mem {x : Str × List Str} : x ∈ ts0 ms most nf ↔ ∃ k, k < most ∧ x = (nm k, headsOf ms most nf k) := by
  unfold ts0
  rw [List.mem_map]
  constructor
  · rintro ⟨k, hk, rfl⟩
    exact ⟨k, by have := List.mem_range'.mp hk; omega, rfl⟩
  · rintro ⟨k, hk, rfl⟩
    exact ⟨k, List.mem_range'.mpr ⟨k, hk, by omega⟩, rfl⟩
theorem names_mem {t : Nat} {x : Str} : x ∈ (turned (ts0 ms most nf) t).map (·.1) ↔ ∃ k, k < most ∧ x = nm k := by
  rw [List.mem_map]
  constructor
  · rintro ⟨u, hu, rfl⟩
    obtain ⟨k, hk, rfl⟩ := ts_mem.mp (mem_turned.mp hu)
    exact ⟨k, hk, rfl⟩
  · rintro ⟨k, hk, rfl⟩
    exact ⟨_, mem_turned.mpr (ts_mem.mpr ⟨k, hk, rfl⟩), rfl⟩
theorem names_nd (h1 : most ≤ 12) (t : Nat) : ((turned (ts0 ms most nf) t).map (·.1)).Nodup := by
  have p := (turned_perm (ts0 ms most nf) t).map (·.1)
  refine p.nodup_iff.mpr ?_
  unfold ts0
  rw [List.map_map]
  unfold List.Nodup
  rw [List.pairwise_map]
  refine List.Pairwise.imp_of_mem ?_ (List.nodup_range' (s := 0) (n := most))
  intro a b ha hb ne e
  have := List.mem_range'.mp ha
  have := List.mem_range'.mp hb
  exact ne (nm_inj a (by omega) b (by omega) e)
theorem ts_len (t : Nat) : (turned (ts0 ms most nf) t).length = most := by
  rw [(turned_perm _ t).length_eq]
  unfold ts0
  simp
/-- the number of a name -/
def idx (most : Nat) (x : Str) : Nat := (nameT.take most).idxOf x
theorem idx_nm (h1 : most ≤ 12) {k : Nat} (hk : k < most) : idx most (nm k) = k := by
  have hl : (nameT.take most).length = most := by
    rw [List.length_take]
    show min most 12 = most
    omega
  have hk' : k < (nameT.take most).length := by omega
  have e : nm k = (nameT.take most)[k] := by
    unfold nm
    rw [List.getElem_take, List.getD_eq_getElem?_getD, List.getElem?_eq_getElem (by show k < 12; omega)]
    rfl
  have hn : (nameT.take most).Nodup := List.Nodup.sublist (List.take_sublist _ _) (by decide +kernel)
  unfold idx
  rw [e]
  exact List.Nodup.idxOf_getElem hn k hk'
def askX (ms : List Int) (most : Nat) (x : Str) : List Str := if idx most x < most then (aks ms most (idx most x)).map nmI else []
theorem askX_nm (h1 : most ≤ 12) {k : Nat} (hk : k < most) : askX ms most (nm k) = (aks ms most k).map nmI := by
  unfold askX
  rw [idx_nm h1 hk, if_pos hk]
theorem filter_heads (h0 : 0 < most) (hm : most ≤ 12) (h1 : 0 < nf) (h2 : nf ≤ 4) {k : Nat} (hk : k < most) (t : Nat) : askS (turned (ts0 ms most nf) t) (nm k, headsOf ms most nf k) = (aks ms most k).map nmI := by
  have hf := List.mem_of_mem_take (fact_mem (ms := ms) h1 h2 k)
  have out : decide (factOf ms nf k ∈ (turned (ts0 ms most nf) t).map (·.1)) = false := decide_eq_false fun z => by
    obtain ⟨j, hj, e⟩ := names_mem.mp z
    exact nm_fact j (by omega) _ hf e.symm
  have ins : ((aks ms most k).map nmI).filter (fun x => decide (x ∈ (turned (ts0 ms most nf) t).map (·.1))) = (aks ms most k).map nmI := by
    rw [List.filter_eq_self]
    intro x hx
    obtain ⟨j, hj, rfl⟩ := aks_name h0 hx
    exact decide_eq_true (names_mem.mpr ⟨j, by omega, rfl⟩)
  unfold askS
  show (headsOf ms most nf k).filter _ = _
  unfold headsOf
  split
  · rw [List.filter_cons_of_neg (by rw [out]; exact Bool.false_ne_true), ins]
  · split
    · rw [List.filter_append, ins, List.filter_cons_of_neg (by rw [out]; exact Bool.false_ne_true)]
      simp
    · exact ins
theorem bookOk (h0 : 0 < most) (hm : most ≤ 12) (h1 : 0 < nf) (h2 : nf ≤ 4) (t : Nat) (b : Int) (fs : List Str) : BookOk b fs (turned (ts0 ms most nf) t) (askX ms most) (idx most) where
  nd := names_nd hm t
  len := by rw [ts_len]; omega
  len2 := fun u hu => by
    obtain ⟨k, hk, rfl⟩ := ts_mem.mp (mem_turned.mp hu)
    have := (heads_ok (ms := ms) h0 h1 h2 (by omega : k < 12)).2.2.1
    exact Nat.le_trans this (by decide)
  ak := fun u hu => by
    obtain ⟨k, hk, rfl⟩ := ts_mem.mp (mem_turned.mp hu)
    rw [filter_heads h0 hm h1 h2 hk t]
    exact askX_nm hm hk
  h3 := fun x => by
    unfold askX
    split
    · rw [List.length_map]
      exact (ask_props _ _ _ (by omega)).2.2
    · exact Nat.zero_le _
  hr := fun x y hy => by
    unfold askX at hy
    split at hy
    · rename_i hlt
      obtain ⟨j, hj, rfl⟩ := aks_name h0 hy
      rw [idx_nm hm (by omega)]
      exact hj
    · exact absurd hy List.not_mem_nil
theorem cols_ok (h0 : 0 < most) (h1 : 0 < nf) (h2 : nf ≤ 4) (t : Nat) : ∀ u ∈ turned (ts0 ms most nf) t, ∀ x ∈ u.2, x ∈ factT.take nf ++ (turned (ts0 ms most nf) t).map (·.1) := by
  intro u hu x hx
  obtain ⟨k, hk, rfl⟩ := ts_mem.mp (mem_turned.mp hu)
  rcases heads_mem h0 h1 h2 hx with z | z
  · exact List.mem_append_left _ z
  · obtain ⟨j, hj, rfl⟩ := aks_name h0 z
    exact List.mem_append_right _ (names_mem.mpr ⟨j, by omega, rfl⟩)
theorem all_nd (hm : most ≤ 12) (t : Nat) : (factT.take nf ++ (turned (ts0 ms most nf) t).map (·.1)).Nodup := by
  rw [List.nodup_append]
  refine ⟨List.Nodup.sublist (List.take_sublist _ _) fact_nd, names_nd hm t, fun a ha d hd z => ?_⟩
  obtain ⟨k, hk, rfl⟩ := names_mem.mp hd
  exact nm_fact k (by omega) a (List.mem_of_mem_take ha) z.symm
theorem book_made (h0 : 0 < most) (hm : most ≤ 12) (h1 : 0 < nf) (h2 : nf ≤ 4) (t : Nat) (b : Int) : i_Book 24 [] (bkF b (factT.take nf) (turned (ts0 ms most nf) t)) = .ok (bkF b (factT.take nf) (turned (ts0 ms most nf) t)) := by
  have hl := ts_len (ms := ms) (most := most) (nf := nf) t
  obtain ⟨st, hs, _, hr⟩ := rings_run b (turned (ts0 ms most nf) t) (by omega) (fun _ => True) trivial (fun _ _ _ => trivial)
  have hall := settled_all hs (idx most) (fun u hu x hx hn => by
    obtain ⟨k, hk, rfl⟩ := ts_mem.mp (mem_turned.mp hu)
    obtain ⟨j, hj, rfl⟩ := names_mem.mp hn
    rw [idx_nm hm hj, idx_nm hm hk]
    rcases heads_mem h0 h1 h2 hx with z | z
    · exact absurd rfl (nm_fact j (by omega) _ (List.mem_of_mem_take z))
    · obtain ⟨i, hi, e⟩ := aks_name h0 z
      have := nm_inj j (by omega) i (by omega) e
      omega) (names_nd hm t)
  rw [if_neg hall] at hr
  exact book_ok b (factT.take nf) _ (fun f hf => isW_fact f (List.mem_of_mem_take hf)) (all_nd hm t) (by rw [List.length_take]; omega) (by omega) (cols_ok h0 h1 h2 t) _ hr
end
end Vi

namespace Vi
open PySem PySem.Spec PyProof.Rows L2
/-! ### equal lists of texts -/
theorem eqv_strs : ∀ xs : List Str, PyData.eqvAll (D.pys (xs.map D.str)) (D.pys (xs.map D.str)) = true
  | [] => by simp [D.pys, PyData.eqvAll]
  | x :: xs => by
    simp only [List.map_cons, D.pys, D.py, PyData.eqvAll, PyData.eqv, Bool.and_eq_true]
    exact ⟨beq_self_eq_true x, eqv_strs xs⟩
theorem ne_same (xs : List Str) (h : ∀ x ∈ xs, PyData.strOk x = true) : oNe (.lst (xs.map D.str)) (.lst (xs.map D.str)) = some (.bl false) := by
  have l : D.lay 60 (.lst (xs.map D.str)) = true := by
    simp only [D.lay]
    exact lays_str h
  have e : deq (.lst (xs.map D.str)) (.lst (xs.map D.str)) = true := by
    unfold deq
    simp only [D.py, PyData.eqv]
    exact eqv_strs xs
  unfold oNe
  rw [if_neg (fun z => absurd z.2.1 Bool.false_ne_true), l, e]
  rfl
/-! ### cuts -/
theorem cut_from {α : Type} (xs : List α) (t : Nat) (h : t ≤ xs.length) : cutL xs (some (t : Int)) none = xs.drop t := by
  unfold cutL
  rw [HT.sIx_nat, HT.sIx_none, Nat.min_eq_left h]
  rw [List.take_of_length_le (by rw [List.length_drop]; omega)]
theorem cut_to {α : Type} (xs : List α) (t : Nat) (h : t ≤ xs.length) : cutL xs none (some (t : Int)) = xs.take t := by
  unfold cutL
  rw [HT.sIx_nat, HT.sIx_none, Nat.min_eq_left h]
  simp
theorem sl_from {f : DE} {l : Store → R (Option Int)} {ρ : Store} {xs : List D} {t : Nat} (h1 : f ρ = .ok (.lst xs)) (h2 : l ρ = .ok (some (t : Int))) (h : t ≤ xs.length) : slD f l oNoPart ρ = .ok (.lst (xs.drop t)) := by
  unfold slD oNoPart
  rw [h1, bind_ok, h2, bind_ok, bind_ok]
  show R.of (some (D.lst (cutL xs (some (t : Int)) none))) = _
  rw [cut_from xs t h]
  rfl
theorem sl_to {f : DE} {l : Store → R (Option Int)} {ρ : Store} {xs : List D} {t : Nat} (h1 : f ρ = .ok (.lst xs)) (h2 : l ρ = .ok (some (t : Int))) (h : t ≤ xs.length) : slD f oNoPart l ρ = .ok (.lst (xs.take t)) := by
  unfold slD oNoPart
  rw [h1, bind_ok, bind_ok, h2, bind_ok]
  show R.of (some (D.lst (cutL xs none (some (t : Int))))) = _
  rw [cut_to xs t h]
  rfl
/-! ### the two loops -/
def lawMake : SS_ := (seqS (asgS (.nm 9) (lcD (iterD (bin subD (bD 5) (vD 8))) (.nm 14) yesT (bin subD (bD 4) (vD 14)) [14]))
   (seqS (asgS (.nm 10) (bin subD (bD 6) (bin oMod (bin oDiv (bin subD (bD 3) (vD 8)) (cD (.int 21))) (un lenD (bD 6)))))
   (seqS (ifS (orT (tV (bin oEq (bin oMod (bin oDiv (bin subD (bD 3) (vD 8)) (cD (.int 7))) (cD (.int 3))) (cD (.int 0)))) (tV (bin oEq (un lenD (bD 9)) (cD (.int 0)))))
    (asgS (.nm 9) (bin oAdd (lstD (consA (vD 10) nilA)) (vD 9)))
    (ifS (tV (bin oEq (bin oMod (bin oDiv (bin subD (bD 3) (vD 8)) (cD (.int 7))) (cD (.int 3))) (cD (.int 1))))
     (asgS (.nm 9) (bin oAdd (vD 9) (lstD (consA (vD 10) nilA))))
     skipS))
   (appS 7 (callD (gd 3 f__law_net_table) (consA (bin subD (bD 4) (vD 8)) (consA (vD 9) (consA (cD (.int 0)) nilA))))))))
section
variable (ns : List Int) (ms : List Int) (most nf turn : Nat)
def asksL : List (List Int) := (List.range' 0 most).map fun k => aks ms most k
abbrev st7 (acc : TL) (s8 s9 s10 s14 : Slot) : Store := [.sh (.scr ns), .sh (.int most), .sh (.int turn), .sh (.lst (ms.map D.int)), .sh (.lst ((nameT.take most).map D.str)), .sh (intsD (asksL ms most)), .sh (.lst ((factT.take nf).map D.str)), .ol (acc.map (tbD 9)), s8, s9, s10, .no, .no, .no, s14]
end
section
variable {ns : List Int} {ms : List Int} {most nf turn : Nat}
theorem names_at (hm : most ≤ 12) {k : Nat} (hk : k < most) : subD (.lst ((nameT.take most).map D.str)) (.int (k : Int)) = some (.str (nm k)) := by
  refine sub_lst ?_
  rw [List.getElem?_map, List.getElem?_take_of_lt hk]
  unfold nm
  rw [List.getD_eq_getElem?_getD, List.getElem?_eq_getElem (by show k < 12; omega)]
  rfl
theorem names_of (h0 : 0 < most) (hm : most ≤ 12) {k : Nat} (hk : k < most) (ρ : Store) (h5 : bin subD (bD 5) (vD 8) ρ = .ok (.lst ((aks ms most k).map D.int))) (h4 : ∀ d, bD 4 ((wipeS ρ [14]).set 14 d) = .ok (.lst ((nameT.take most).map D.str))) (h14 : ∀ d, vD 14 ((wipeS ρ [14]).set 14 (.sh d)) = .ok d) :
    lcD (iterD (bin subD (bD 5) (vD 8))) (.nm 14) yesT (bin subD (bD 4) (vD 14)) [14] ρ = .ok (.lst (((aks ms most k).map nmI).map D.str)) := by
  have hp := ask_props (ms.getD k 0) k most (by omega)
  refine lc_ok (ds := (aks ms most k).map D.int) ?_ (by rw [List.length_map]; exact Nat.le_trans hp.2.2 (by decide)) ?_
  · rw [x_iterD, h5]
    rfl
  · refine (lcL_map D.int (fun _ => true) (fun y => D.str (nmI y)) (aks ms most k) fun y hy => ⟨_, rfl, rfl, fun _ => ?_⟩).trans ?_
    · have h := hp.1 y hy
      refine bin_ok (h4 _) (h14 _) ?_
      have e : y = (y.toNat : Int) := by omega
      rw [e]
      exact names_at hm (by omega)
    · rw [filt_true, List.map_map]
      rfl
theorem make_step (h0 : 0 < most) (hm : most ≤ 12) (h1 : 0 < nf) (h2 : nf ≤ 4) (hms : ms.length = most) {k : Nat} (hk : k < most) (acc : TL) (ha : acc.length ≤ 100) (s9 s10 s14 : Slot) : ∃ s9' s10', lawMake (st7 ns ms most nf turn acc (.sh (.int k)) s9 s10 s14) = .nx (st7 ns ms most nf turn (acc ++ [(nm k, headsOf ms most nf k)]) (.sh (.int k)) s9' s10' s14) := by
  obtain ⟨w1, w2, w3, w4⟩ := heads_ok (ms := ms) h0 h1 h2 (by omega : k < 12)
  have hfl : (factT.take nf).length = nf := by
    rw [List.length_take]
    show min nf 4 = nf
    omega
  have num : subD (.lst (ms.map D.int)) (.int (k : Int)) = some (.int (ms.getD k 0)) := by
    refine sub_lst ?_
    rw [List.getElem?_map, List.getElem?_eq_getElem (by omega), List.getD_eq_getElem?_getD, List.getElem?_eq_getElem (by omega)]
    rfl
  have d7 : ∀ i, oDiv (.int i) (.int 7) = some (.int (i / 7)) := fun i => div_int (by decide) (by decide)
  have d21 : ∀ i, oDiv (.int i) (.int 21) = some (.int (i / 21)) := fun i => div_int (by decide) (by decide)
  have m3 : ∀ i, oMod (.int i) (.int 3) = some (.int (i % 3)) := fun i => mod_int (by decide)
  have mn : ∀ i, oMod (.int i) (.int (nf : Int)) = some (.int (i % (nf : Int))) := fun i => mod_int (by omega)
  let hs := (aks ms most k).map nmI
  have hlen : hs.length ≤ 3 := by
    rw [List.length_map]
    exact (ask_props (ms.getD k 0) k most (by omega)).2.2
  have r7 : ∀ acc s9 s10 s14 c, tV (bin oEq (bin oMod (bin oDiv (bin subD (bD 3) (vD 8)) (cD (.int 7))) (cD (.int 3))) (cD (.int c))) (st7 ns ms most nf turn acc (.sh (.int k)) s9 s10 s14) = .ok (decide (ms.getD k 0 / 7 % 3 = c)) := fun acc s9 s10 s14 c =>
    tV_ok (bin_ok (bin_ok (bin_ok (bin_ok rfl rfl num) rfl (d7 _)) rfl (m3 _)) rfl (eq_int _ _))
  refine ⟨.sh (.lst ((headsOf ms most nf k).map D.str)), .sh (.str (factOf ms nf k)), ?_⟩
  unfold lawMake
  refine Eq.trans (seq_nx (st7 ns ms most nf turn acc (.sh (.int k)) (.sh (.lst (hs.map D.str))) s10 s14) (asg_ok _ (names_of h0 hm hk _ ?_ (fun _ => rfl) (fun _ => rfl)) rfl)) ?_
  · refine bin_ok rfl rfl ?_
    refine sub_lst ?_
    rw [List.getElem?_map]
    unfold asksL
    rw [List.getElem?_map, List.getElem?_range' hk]
    simp
  refine Eq.trans (seq_nx (st7 ns ms most nf turn acc (.sh (.int k)) (.sh (.lst (hs.map D.str))) (.sh (.str (factOf ms nf k))) s14) (asg_ok _ ?_ rfl)) ?_
  · refine bin_ok (e := .int (ms.getD k 0 / 21 % (nf : Int))) rfl (bin_ok (e := .int (nf : Int)) (bin_ok (bin_ok rfl rfl num) rfl (d21 _)) (un_ok rfl (by rw [len_lst, List.length_map, hfl])) (mn _)) ?_
    have q1 := Int.emod_lt_of_pos (ms.getD k 0 / 21) (by omega : (0 : Int) < nf)
    have q2 := Int.emod_nonneg (ms.getD k 0 / 21) (by omega : (nf : Int) ≠ 0)
    have e : ms.getD k 0 / 21 % (nf : Int) = ((ms.getD k 0 / 21 % (nf : Int)).toNat : Int) := by omega
    have hlt : (ms.getD k 0 / 21 % (nf : Int)).toNat < (factT.take nf).length := by rw [hfl]; omega
    have ef : factOf ms nf k = (factT.take nf)[(ms.getD k 0 / 21 % (nf : Int)).toNat]'hlt := by
      unfold factOf
      generalize (ms.getD k 0 / 21 % (nf : Int)).toNat = q at hlt ⊢
      rw [List.getD_eq_getElem?_getD, List.getElem?_eq_getElem hlt]
      rfl
    rw [e]
    refine sub_lst ?_
    rw [List.getElem?_map, List.getElem?_eq_getElem hlt, ef]
    rfl
  refine Eq.trans (seq_nx (st7 ns ms most nf turn acc (.sh (.int k)) (.sh (.lst ((headsOf ms most nf k).map D.str))) (.sh (.str (factOf ms nf k))) s14) ?_) ?_
  · refine Eq.trans (if_ok (b := decide (ms.getD k 0 / 7 % 3 = 0) || decide ((hs.length : Int) = 0)) (orT_ok (r7 _ _ _ _ 0) fun _ => tV_ok (bin_ok (un_ok rfl (by rw [len_lst, List.length_map])) rfl (eq_int _ _)))) ?_
    have hz : ((hs.length : Int) = 0) ↔ aks ms most k = [] := by
      show (((aks ms most k).map nmI).length : Int) = 0 ↔ _
      rw [List.length_map]
      constructor
      · intro z
        exact List.eq_nil_of_length_eq_zero (by omega)
      · intro z
        rw [z]
        rfl
    by_cases c : ms.getD k 0 / 7 % 3 = 0 ∨ aks ms most k = []
    · rw [if_pos (by
        rcases c with c | c
        · rw [decide_eq_true c]; rfl
        · rw [decide_eq_true (hz.mpr c), Bool.or_true])]
      refine asg_ok (d := .lst ((headsOf ms most nf k).map D.str)) _ ?_ rfl
      unfold headsOf
      rw [if_pos c]
      exact bin_ok (d := .lst [.str (factOf ms nf k)]) rfl rfl (add_lst (by rw [List.length_map]; simp; omega))
    · have c1 : ¬ ms.getD k 0 / 7 % 3 = 0 := fun z => c (.inl z)
      have c2 : ¬ (hs.length : Int) = 0 := fun z => c (.inr (hz.mp z))
      rw [if_neg (by rw [decide_eq_false c1, decide_eq_false c2]; exact Bool.false_ne_true)]
      refine Eq.trans (if_ok (r7 _ _ _ _ 1)) ?_
      by_cases d : ms.getD k 0 / 7 % 3 = 1
      · rw [if_pos (decide_eq_true d)]
        refine asg_ok (d := .lst ((headsOf ms most nf k).map D.str)) _ ?_ rfl
        unfold headsOf
        rw [if_neg c, if_pos d, List.map_append]
        exact bin_ok (e := .lst [.str (factOf ms nf k)]) rfl rfl (add_lst (by rw [List.length_map]; simp; omega))
      · rw [if_neg (by rw [decide_eq_false d]; exact Bool.false_ne_true)]
        unfold headsOf
        rw [if_neg c, if_neg d]
        rfl
  · refine app_ok (xs := acc.map (tbD 9)) (d := tbD 9 (nm k, headsOf ms most nf k)) _ rfl ?_ (by rw [List.length_map]; omega) ?_
    · exact call_ok (ds := [.str (nm k), .lst ((headsOf ms most nf k).map D.str), .int 0]) (consA_ok (bin_ok rfl rfl (names_at hm hk)) rfl) rfl (net_table_eq (nm k) (headsOf ms most nf k) 0 (by decide) (isW_nm k (by omega)) w1 w2 w3 w4)
    · show (st7 ns ms most nf turn acc (.sh (.int k)) (.sh (.lst ((headsOf ms most nf k).map D.str))) (.sh (.str (factOf ms nf k))) s14).set 7 (.ol (acc.map (tbD 9) ++ [tbD 9 (nm k, headsOf ms most nf k)])) = [.sh (.scr ns), .sh (.int most), .sh (.int turn), .sh (.lst (ms.map D.int)), .sh (.lst ((nameT.take most).map D.str)), .sh (intsD (asksL ms most)), .sh (.lst ((factT.take nf).map D.str)), .ol ((acc ++ [(nm k, headsOf ms most nf k)]).map (tbD 9)), .sh (.int k), .sh (.lst ((headsOf ms most nf k).map D.str)), .sh (.str (factOf ms nf k)), .no, .no, .no, s14]
      rw [List.map_append]
      rfl
theorem make_loop (h0 : 0 < most) (hm : most ≤ 12) (h1 : 0 < nf) (h2 : nf ≤ 4) (hms : ms.length = most) (s14 : Slot) : ∀ (ks : List Nat) (acc : TL) (s8 s9 s10 : Slot), (∀ k ∈ ks, k < most) → acc.length + ks.length ≤ 100 → ∃ s8' s9' s10',
    forL (.nm 8) lawMake (ks.map fun (k : Nat) => D.int (k : Int)) (st7 ns ms most nf turn acc s8 s9 s10 s14) = .nx (st7 ns ms most nf turn (acc ++ ks.map fun k => (nm k, headsOf ms most nf k)) s8' s9' s10' s14)
  | [], acc, s8, s9, s10, _, _ => ⟨s8, s9, s10, by rw [List.map_nil, List.map_nil, List.append_nil]; rfl⟩
  | k :: ks, acc, s8, s9, s10, hk, hl => by
    rw [List.length_cons] at hl
    obtain ⟨a, b, e⟩ := make_step (ns := ns) (turn := turn) h0 hm h1 h2 hms (hk k List.mem_cons_self) acc (by omega) s9 s10 s14
    obtain ⟨x, y, z, e2⟩ := make_loop h0 hm h1 h2 hms s14 ks (acc ++ [(nm k, headsOf ms most nf k)]) (.sh (.int k)) a b (fun j hj => hk j (List.mem_cons_of_mem _ hj)) (by rw [List.length_append, List.length_singleton]; omega)
    refine ⟨x, y, z, ?_⟩
    rw [List.append_assoc] at e2
    show (match lawMake (st7 ns ms most nf turn acc (.sh (.int k)) s9 s10 s14) with
      | .nx ρ' => forL (.nm 8) lawMake (ks.map fun (k : Nat) => D.int (k : Int)) ρ'
      | .ct ρ' => forL (.nm 8) lawMake (ks.map fun (k : Nat) => D.int (k : Int)) ρ'
      | .bk ρ' => .nx ρ'
      | o => o) = _
    rw [e]
    exact e2
end
end Vi

namespace Vi
open PySem PySem.Spec PyProof.Rows L2
def lawAsk : SS_ := (seqS (asgS (.nm 12) (lcD (iterD (callD (gd 3 (f__law_order 40)) (consA (vD 5) (consA (vD 8) (consA (lstD nilA) nilA))))) (.nm 14) yesT (bin subD (bD 4) (vD 14)) [14]))
   (seqS (ownNS 13 (callN (gdN 2 n_order_of) (consA (vD 11) (consA (bin subD (bD 4) (vD 8)) nilA))))
   (seqS (ifS (orT (notT (tV (isiD [(0, false), (1, false), (2, false), (3, false), (4, true), (5, false), (6, false)] (bD 13)))) (tV (bin oNe (bD 13) (bD 12))))
    (retS (cD (.bl false)))
    skipS)
   (seqS (revS 13)
   (seqS (appS 13 (cD (.str "a")))
   (ifS (tV (bin oNe (callD (gd 2 f_order_of) (consA (vD 11) (consA (bin subD (bD 4) (vD 8)) nilA))) (bD 12)))
    (retS (cD (.bl false)))
    skipS))))))
section
variable (ns : List Int) (ms : List Int) (most nf turn : Nat)
abbrev TT : TL := turned (ts0 ms most nf) turn
abbrev st11 (s8 s9 s10 s12 s13 s14 : Slot) : Store := [.sh (.scr ns), .sh (.int most), .sh (.int turn), .sh (.lst (ms.map D.int)), .sh (.lst ((nameT.take most).map D.str)), .sh (intsD (asksL ms most)), .sh (.lst ((factT.take nf).map D.str)), .ol ((ts0 ms most nf).map (tbD 9)), s8, s9, s10, .sh (bk 9 (factT.take nf) (TT ms most nf turn)), s12, s13, s14]
def askI (i : Int) : List Int := if 0 ≤ i ∧ i < most then aks ms most i.toNat else []
end
section
variable {ns : List Int} {ms : List Int} {most nf turn : Nat}
theorem askI_at {k : Nat} (hk : k < most) : askI ms most (k : Int) = aks ms most k := by
  unfold askI
  rw [if_pos ⟨by omega, by omega⟩]
  rfl
theorem askI_props (h0 : 0 < most) (x : Int) : (askI ms most x).length ≤ 3 ∧ ∀ y ∈ askI ms most x, y.toNat < x.toNat ∧ 0 ≤ y ∧ y < most := by
  unfold askI
  split
  · rename_i c
    have hp := ask_props (ms.getD x.toNat 0) x.toNat most (by omega)
    refine ⟨hp.2.2, fun y hy => ?_⟩
    have := hp.1 y hy
    omega
  · exact ⟨Nat.zero_le _, fun y hy => absurd hy List.not_mem_nil⟩
theorem ask_step (h0 : 0 < most) (hm : most ≤ 12) (h1 : 0 < nf) (h2 : nf ≤ 4) {k : Nat} (hk : k < most) (s9 s10 s12 s13 s14 : Slot) : ∃ s12' s13', lawAsk (st11 ns ms most nf turn (.sh (.int k)) s9 s10 s12 s13 s14) = .nx (st11 ns ms most nf turn (.sh (.int k)) s9 s10 s12' s13' s14) := by
  have hlen : (asksL ms most).length = most := by
    unfold asksL
    simp
  have hat : ∀ j : Nat, j < most → (asksL ms most)[j]? = some (askI ms most (j : Int)) := by
    intro j hj
    rw [askI_at hj]
    unfold asksL
    rw [List.getElem?_map, List.getElem?_range' hj]
    simp
  have B := bookOk (ms := ms) (nf := nf) h0 hm h1 h2 turn 9 (factT.take nf)
  have p11 : 4 ^ k ≤ 4194304 := Nat.le_trans (Nat.pow_le_pow_right (by decide) (by omega : k ≤ 11)) (by decide)
  have eo := law_order_eq (asksL ms most) (askI ms most) Int.toNat (fun j hj => hat j (by omega)) (fun x => (askI_props h0 x).1) (fun x y hy => ((askI_props h0 x).2 y hy).1) (fun j hj y hy => ⟨y.toNat, by have := (askI_props (ms := ms) h0 j).2 y hy; omega, by have := (askI_props (ms := ms) h0 j).2 y hy; omega⟩) 40 k [] (by omega) (by show k < 40; omega) (by show 0 + 4 ^ k ≤ 16000000; omega)
  obtain ⟨em, ed⟩ := ord_map (ask := askI ms most) (askB := askX ms most) (f := nmI) (D := fun i => 0 ≤ i ∧ i < (most : Int)) (fun x y hx hy e => by
    have := nm_inj x.toNat (by omega) y.toNat (by omega) e
    omega) (fun x hx y hy => ((askI_props h0 x).2 y hy).2) (fun x hx => by
    have e : x = (x.toNat : Int) := by omega
    rw [e, askI_at (by omega)]
    exact askX_nm hm (by omega)) 40 (k : Int) [] ⟨by omega, by omega⟩ (fun y hy => absurd hy List.not_mem_nil)
  let os : List Int := ordF (askI ms most) 40 (k : Int) []
  have em : ordF (askX ms most) 40 (nm k) [] = os.map nmI := em
  have hos : os.length ≤ 4194304 := by
    have := ord_len (ask := askI ms most) (rank := Int.toNat) (fun x => (askI_props h0 x).1) (fun x y hy => ((askI_props h0 x).2 y hy).1) 40 (k : Int) []
    have : os.length ≤ 0 + 4 ^ k := this
    omega
  have hin : nm k ∈ (TT ms most nf turn).map (·.1) := names_mem.mpr ⟨k, hk, rfl⟩
  have hrk : idx most (nm k) < 12 := by rw [idx_nm hm hk]; omega
  have e1 := n_order_eq B (nm k) hin hrk
  have e2 := order_eq B (nm k) hin hrk
  rw [em] at e1 e2
  have hstr : ∀ x ∈ os.map nmI, PyData.strOk x = true := by
    intro x hx
    obtain ⟨y, hy, rfl⟩ := List.mem_map.mp hx
    have := ed y hy
    exact nm_ok y.toNat (by omega)
  have hne := ne_same (os.map nmI) hstr
  let due : Slot := .sh (.lst ((os.map nmI).map D.str))
  refine ⟨due, .ol ((os.map nmI).map D.str |>.reverse |>.append [.str "a"]), ?_⟩
  unfold lawAsk
  refine Eq.trans (seq_nx (st11 ns ms most nf turn (.sh (.int k)) s9 s10 due s13 s14) (asg_ok _ ?_ rfl)) ?_
  · refine lc_ok (ds := os.map D.int) ?_ (by rw [List.length_map]; omega) ?_
    · have q : callD (gd 3 (f__law_order 40)) (consA (vD 5) (consA (vD 8) (consA (lstD nilA) nilA))) (st11 ns ms most nf turn (.sh (.int k)) s9 s10 s12 s13 s14) = .ok (.lst (os.map D.int)) := call_ok (ds := [intsD (asksL ms most), .int k, .lst []]) rfl rfl eo
      rw [x_iterD, q]
      rfl
    · refine (lcL_map D.int (fun _ => true) (fun y => D.str (nmI y)) os fun y hy => ⟨_, rfl, rfl, fun _ => ?_⟩).trans ?_
      · have h := ed y hy
        refine bin_ok rfl rfl ?_
        have e : y = (y.toNat : Int) := by omega
        rw [e]
        exact names_at hm (by omega)
      · rw [filt_true, List.map_map]
        rfl
  refine Eq.trans (seq_nx (st11 ns ms most nf turn (.sh (.int k)) s9 s10 due (.ol ((os.map nmI).map D.str)) s14) ?_) ?_
  · have q0 : bin subD (bD 4) (vD 8) (st11 ns ms most nf turn (.sh (.int k)) s9 s10 due s13 s14) = .ok (.str (nm k)) := bin_ok rfl rfl (names_at hm hk)
    have q : callN (gdN 2 n_order_of) (consA (vD 11) (consA (bin subD (bD 4) (vD 8)) nilA)) (st11 ns ms most nf turn (.sh (.int k)) s9 s10 due s13 s14) = .ok ((os.map nmI).map D.str) := by
      rw [x_callN, consA_ok (d := bk 9 (factT.take nf) (TT ms most nf turn)) (ds := [.str (nm k)]) rfl (consA_ok q0 rfl), bind_ok]
      exact e1
    rw [x_ownNS, q, then_ok]
    rfl
  refine Eq.trans (seq_nx (st11 ns ms most nf turn (.sh (.int k)) s9 s10 due (.ol ((os.map nmI).map D.str)) s14) ?_) ?_
  · refine Eq.trans (if_ok (b := false) ?_) rfl
    exact orT_ok (a := false) (b := false) (notT_ok (b := true) (tV_ok rfl)) fun _ => tV_ok (bin_ok rfl rfl hne)
  refine Eq.trans (seq_nx (st11 ns ms most nf turn (.sh (.int k)) s9 s10 due (.ol ((os.map nmI).map D.str).reverse) s14) rfl) ?_
  refine Eq.trans (seq_nx (st11 ns ms most nf turn (.sh (.int k)) s9 s10 due (.ol (((os.map nmI).map D.str).reverse ++ [.str "a"])) s14) (app_ok (xs := ((os.map nmI).map D.str).reverse) (d := .str "a") _ rfl rfl (by rw [List.length_reverse, List.length_map, List.length_map]; omega) rfl)) ?_
  refine Eq.trans (if_ok (b := false) ?_) rfl
  refine tV_ok (bin_ok (call_ok (ds := [bk 9 (factT.take nf) (TT ms most nf turn), .str (nm k)]) (consA_ok rfl (consA_ok (bin_ok rfl rfl (names_at hm hk)) rfl)) rfl e2) rfl hne)
theorem ask_loop (h0 : 0 < most) (hm : most ≤ 12) (h1 : 0 < nf) (h2 : nf ≤ 4) (s9 s10 s14 : Slot) : ∀ (ks : List Nat) (s8 s12 s13 : Slot), (∀ k ∈ ks, k < most) → ∃ s8' s12' s13',
    forL (.nm 8) lawAsk (ks.map fun (k : Nat) => D.int (k : Int)) (st11 ns ms most nf turn s8 s9 s10 s12 s13 s14) = .nx (st11 ns ms most nf turn s8' s9 s10 s12' s13' s14)
  | [], s8, s12, s13, _ => ⟨s8, s12, s13, rfl⟩
  | k :: ks, s8, s12, s13, hk => by
    obtain ⟨a, b, e⟩ := ask_step (ns := ns) (ms := ms) (turn := turn) h0 hm h1 h2 (hk k List.mem_cons_self) s9 s10 s12 s13 s14
    obtain ⟨x, y, z, e2⟩ := ask_loop h0 hm h1 h2 s9 s10 s14 ks (.sh (.int k)) a b (fun j hj => hk j (List.mem_cons_of_mem _ hj))
    refine ⟨x, y, z, ?_⟩
    show (match lawAsk (st11 ns ms most nf turn (.sh (.int k)) s9 s10 s12 s13 s14) with
      | .nx ρ' => forL (.nm 8) lawAsk (ks.map fun (k : Nat) => D.int (k : Int)) ρ'
      | .ct ρ' => forL (.nm 8) lawAsk (ks.map fun (k : Nat) => D.int (k : Int)) ρ'
      | .bk ρ' => .nx ρ'
      | o => o) = _
    rw [e]
    exact e2
end
end Vi

namespace Vi
open PySem PySem.Spec PyProof.Rows L2
def lawAt0 : DE := callD (gd 2 f__law_at) (consA (vD 0) (consA (cD (.int 0)) nilA))
def lawBook : DE := mkD 24 2 i_Book 2 (consA (lcD (iterD (vD 6)) (.nm 10) yesT (tupD (consA (vD 10) (consA (mkD 9 2 i_Numbers 2 (consA (cD (.int 0)) (consA (cD (.int 9)) nilA))) nilA))) [10]) (consA (bin oAdd (slD (bD 7) (oPart (vD 2)) oNoPart) (slD (bD 7) oNoPart (oPart (vD 2)))) nilA))
theorem s_law_is : s_law = (seqS (asgS (.nm 1) (bin oAdd (cD (.int 1)) (bin oMod lawAt0 (cD (.int 12)))))
  (seqS (asgS (.nm 2) (bin oMod (bin oDiv lawAt0 (cD (.int 36))) (vD 1)))
  (seqS (asgS (.nm 3) (callD (gd 2 f__law_folded) (consA (vD 0) (consA (vD 1) nilA))))
  (seqS (asgS (.nm 4) (callD (gd 1 f__law_names) (consA (vD 1) nilA)))
  (seqS (asgS (.nm 5) (lcD (rng1 (vD 1)) (.nm 8) yesT (callD (gd 4 f__law_asked) (consA (bin subD (bD 3) (vD 8)) (consA (vD 8) (consA (vD 1) (consA (cD (.int 0)) nilA))))) [8]))
  (seqS (asgS (.nm 6) (slD (lstD (consA (cD (.str "when")) (consA (cD (.str "b")) (consA (cD (.str "fact")) (consA (cD (.str "ab")) nilA))))) oNoPart (oPart (bin oAdd (cD (.int 1)) (bin oMod (bin oDiv lawAt0 (cD (.int 12))) (cD (.int 4)))))))
  (seqS (ownS 7 nilA)
  (seqS (forS (rng1 (vD 1)) (.nm 8) lawMake)
  (seqS (asgS (.nm 11) lawBook)
  (seqS (forS (rng1 (vD 1)) (.nm 8) lawAsk)
  (retS (andV (callD (gd 2 f__law_no_table) (consA (vD 11) (consA (bin subD (bD 6) (cD (.int 0))) nilA))) (callD (gd 2 f__law_no_table) (consA (vD 11) (consA (bin oAdd (bin subD (bD 4) (cD (.int 0))) (cD (.str "q"))) nilA))))))))))))))) := rfl
theorem law_eq (ns : List Int) (hn : ns.length ≤ 63) : f_law [.scr ns] = .ok (.bl true) := by
  let c := cell ns 0
  have c1 := Int.emod_nonneg c (by decide : (12 : Int) ≠ 0)
  have c2 := Int.emod_lt_of_pos c (by decide : (0 : Int) < 12)
  let most : Nat := 1 + (c % 12).toNat
  have hmost : (1 : Int) + c % 12 = (most : Int) := by show (1 : Int) + c % 12 = ((1 + (c % 12).toNat : Nat) : Int); omega
  have h0 : 0 < most := by show 0 < 1 + _; omega
  have hm : most ≤ 12 := by show 1 + (c % 12).toNat ≤ 12; omega
  have d1 := Int.emod_nonneg (c / 36) (by omega : (most : Int) ≠ 0)
  have d2 := Int.emod_lt_of_pos (c / 36) (by omega : (0 : Int) < most)
  let turn : Nat := (c / 36 % (most : Int)).toNat
  have hturn : c / 36 % (most : Int) = (turn : Int) := by show c / 36 % (most : Int) = (((c / 36 % (most : Int)).toNat : Nat) : Int); omega
  have ht : turn < most := by omega
  have e1 := Int.emod_nonneg (c / 12) (by decide : (4 : Int) ≠ 0)
  have e2 := Int.emod_lt_of_pos (c / 12) (by decide : (0 : Int) < 4)
  let nf : Nat := 1 + (c / 12 % 4).toNat
  have hnf : (1 : Int) + c / 12 % 4 = (nf : Int) := by show (1 : Int) + c / 12 % 4 = ((1 + (c / 12 % 4).toNat : Nat) : Int); omega
  have f0 : 0 < nf := by show 0 < 1 + _; omega
  have f1 : nf ≤ 4 := by show 1 + (c / 12 % 4).toNat ≤ 4; omega
  let ms := foldedF ns most
  have hms : ms.length = most := folded_len ns most
  have at0 : ∀ r : Store, lawAt0 (.sh (.scr ns) :: r) = .ok (.int c) := fun r => call_ok (ds := [.scr ns, .int 0]) rfl rfl (at_eq ns 0)
  have dv : ∀ j : Int, 0 < j → j < 2 ^ 64 → oDiv (.int c) (.int j) = some (.int (c / j)) := fun j a b => div_int a b
  have md : ∀ i j : Int, 0 < j → oMod (.int i) (.int j) = some (.int (i % j)) := fun i j a => mod_int a
  refine runF_of rfl [.sh (.scr ns), .no, .no, .no, .no, .no, .no, .no, .no, .no, .no, .no, .no, .no, .no] rfl ?_
  rw [s_law_is]
  refine Eq.trans (seq_nx [.sh (.scr ns), .sh (.int most), .no, .no, .no, .no, .no, .no, .no, .no, .no, .no, .no, .no, .no] (asg_ok (d := .int most) _ ?_ rfl)) ?_
  · rw [← hmost]
    exact bin_ok rfl (bin_ok (at0 _) rfl (md _ _ (by decide))) rfl
  refine Eq.trans (seq_nx [.sh (.scr ns), .sh (.int most), .sh (.int turn), .no, .no, .no, .no, .no, .no, .no, .no, .no, .no, .no, .no] (asg_ok (d := .int turn) _ ?_ rfl)) ?_
  · rw [← hturn]
    exact bin_ok (bin_ok (at0 _) rfl (dv _ (by decide) (by decide))) rfl (md _ _ (by omega))
  refine Eq.trans (seq_nx [.sh (.scr ns), .sh (.int most), .sh (.int turn), .sh (.lst (ms.map D.int)), .no, .no, .no, .no, .no, .no, .no, .no, .no, .no, .no] (asg_ok _ (call_ok (ds := [.scr ns, .int most]) rfl rfl (folded_eq ns most h0 hm hn)) rfl)) ?_
  refine Eq.trans (seq_nx [.sh (.scr ns), .sh (.int most), .sh (.int turn), .sh (.lst (ms.map D.int)), .sh (.lst ((nameT.take most).map D.str)), .no, .no, .no, .no, .no, .no, .no, .no, .no, .no] (asg_ok _ (call_ok (ds := [.int most]) rfl rfl (names_eq most h0 hm)) rfl)) ?_
  refine Eq.trans (seq_nx [.sh (.scr ns), .sh (.int most), .sh (.int turn), .sh (.lst (ms.map D.int)), .sh (.lst ((nameT.take most).map D.str)), .sh (intsD (asksL ms most)), .no, .no, .no, .no, .no, .no, .no, .no, .no] (asg_ok (d := intsD (asksL ms most)) _ ?_ rfl)) ?_
  · refine lc_ok (rng1_ok (n := most) rfl (by omega)) (by simp; omega) ?_
    refine (lcL_map (fun (k : Nat) => D.int (k : Int)) (fun _ => true) (fun k => D.lst ((aks ms most k).map D.int)) _ fun k hk => ⟨_, rfl, rfl, fun _ => ?_⟩).trans ?_
    · have hk : k < most := by have := List.mem_range'.mp hk; omega
      have num : subD (.lst (ms.map D.int)) (.int (k : Int)) = some (.int (ms.getD k 0)) := by
        refine sub_lst ?_
        rw [List.getElem?_map, List.getElem?_eq_getElem (by omega), List.getD_eq_getElem?_getD, List.getElem?_eq_getElem (by omega)]
        rfl
      have ea := asked_eq (ms.getD k 0) k most 0 (by omega) (by omega)
      rw [show looseF (ms.getD k 0) most 0 = false from rfl] at ea
      exact call_ok (ds := [.int (ms.getD k 0), .int k, .int most, .int 0]) (consA_ok (bin_ok rfl rfl num) rfl) rfl ea
    · rw [filt_true]
      unfold asksL
      rw [List.map_map]
      rfl
  refine Eq.trans (seq_nx [.sh (.scr ns), .sh (.int most), .sh (.int turn), .sh (.lst (ms.map D.int)), .sh (.lst ((nameT.take most).map D.str)), .sh (intsD (asksL ms most)), .sh (.lst ((factT.take nf).map D.str)), .no, .no, .no, .no, .no, .no, .no, .no] (asg_ok _ ?_ rfl)) ?_
  · have hp : oPart (bin oAdd (cD (.int 1)) (bin oMod (bin oDiv lawAt0 (cD (.int 12))) (cD (.int 4)))) [.sh (.scr ns), .sh (.int most), .sh (.int turn), .sh (.lst (ms.map D.int)), .sh (.lst ((nameT.take most).map D.str)), .sh (intsD (asksL ms most)), .no, .no, .no, .no, .no, .no, .no, .no, .no] = .ok (some (nf : Int)) := by
      have q : bin oAdd (cD (.int 1)) (bin oMod (bin oDiv lawAt0 (cD (.int 12))) (cD (.int 4))) [.sh (.scr ns), .sh (.int most), .sh (.int turn), .sh (.lst (ms.map D.int)), .sh (.lst ((nameT.take most).map D.str)), .sh (intsD (asksL ms most)), .no, .no, .no, .no, .no, .no, .no, .no, .no] = .ok (.int nf) := by
        rw [← hnf]
        exact bin_ok rfl (bin_ok (bin_ok (at0 _) rfl (dv _ (by decide) (by decide))) rfl (md _ _ (by decide))) rfl
      unfold oPart
      rw [q]
      rfl
    rw [show (factT.take nf).map D.str = (factT.map D.str).take nf from List.map_take]
    exact sl_to (xs := factT.map D.str) rfl hp (by rw [List.length_map]; exact f1)
  refine Eq.trans (seq_nx (st7 ns ms most nf turn [] .no .no .no .no) rfl) ?_
  obtain ⟨s8, s9, s10, el⟩ := make_loop (ns := ns) (turn := turn) h0 hm f0 f1 hms .no (List.range' 0 most) [] .no .no .no (fun k hk => by have := List.mem_range'.mp hk; omega) (by simp; omega)
  refine Eq.trans (seq_nx _ ((for_ok (rng1_ok (n := most) rfl (by omega))).trans el)) ?_
  have hts : (ts0 ms most nf).length = most := by
    unfold ts0
    simp
  refine Eq.trans (seq_nx (st11 ns ms most nf turn s8 s9 s10 .no .no .no) (asg_ok (d := bk 9 (factT.take nf) (TT ms most nf turn)) _ ?_ rfl)) ?_
  · refine mkD_ok (ds := bkF 9 (factT.take nf) (TT ms most nf turn)) (consA_ok ?_ (consA_ok ?_ rfl)) rfl (book_made h0 hm f0 f1 turn 9) rfl
    · refine lc_ok (ds := (factT.take nf).map D.str) rfl (by rw [List.length_map, List.length_take]; omega) ?_
      refine (lcL_map D.str (fun _ => true) (fcD 9) (factT.take nf) fun f _ => ⟨_, rfl, rfl, fun _ => rfl⟩).trans ?_
      rw [filt_true]
    · have q1 := sl_from (f := bD 7) (l := oPart (vD 2)) (ρ := st7 ns ms most nf turn (ts0 ms most nf) s8 s9 s10 .no) (xs := (ts0 ms most nf).map (tbD 9)) (t := turn) rfl rfl (by rw [List.length_map, hts]; omega)
      have q2 := sl_to (f := bD 7) (l := oPart (vD 2)) (ρ := st7 ns ms most nf turn (ts0 ms most nf) s8 s9 s10 .no) (xs := (ts0 ms most nf).map (tbD 9)) (t := turn) rfl rfl (by rw [List.length_map, hts]; omega)
      refine bin_ok q1 q2 ?_
      rw [add_lst (by rw [List.length_drop, List.length_take, List.length_map, hts]; omega)]
      show some (D.lst _) = some (D.lst ((turned (ts0 ms most nf) turn).map (tbD 9)))
      unfold turned
      rw [List.map_append, List.map_drop, List.map_take]
  obtain ⟨t8, t12, t13, ea⟩ := ask_loop (ns := ns) (ms := ms) (turn := turn) h0 hm f0 f1 s9 s10 .no (List.range' 0 most) s8 .no .no (fun k hk => by have := List.mem_range'.mp hk; omega)
  refine Eq.trans (seq_nx _ ((for_ok (rng1_ok (n := most) rfl (by omega))).trans ea)) ?_
  have hl : (TT ms most nf turn).length ≤ 60 := by
    rw [ts_len]
    omega
  have o1 := no_table_eq 9 (factT.take nf) (TT ms most nf turn) "when" (fun z => by
    obtain ⟨k, hk, e⟩ := names_mem.mp z
    exact nm_fact k (by omega) "when" (by decide +kernel) e.symm) hl
  have o2 := no_table_eq 9 (factT.take nf) (TT ms most nf turn) (nm 0 ++ "q") (fun z => by
    obtain ⟨k, hk, e⟩ := names_mem.mp z
    exact nm_q k (by omega) e.symm) hl
  have v1 : callD (gd 2 f__law_no_table) (consA (vD 11) (consA (bin subD (bD 6) (cD (.int 0))) nilA)) (st11 ns ms most nf turn t8 s9 s10 t12 t13 .no) = .ok (.bl true) := by
    refine call_ok (ds := [bk 9 (factT.take nf) (TT ms most nf turn), .str "when"]) (consA_ok rfl (consA_ok (bin_ok rfl rfl ?_) rfl)) rfl o1
    refine sub_lst (i := 0) ?_
    rw [List.getElem?_map, List.getElem?_take_of_lt f0]
    rfl
  have v2 : callD (gd 2 f__law_no_table) (consA (vD 11) (consA (bin oAdd (bin subD (bD 4) (cD (.int 0))) (cD (.str "q"))) nilA)) (st11 ns ms most nf turn t8 s9 s10 t12 t13 .no) = .ok (.bl true) := by
    refine call_ok (ds := [bk 9 (factT.take nf) (TT ms most nf turn), .str (nm 0 ++ "q")]) (consA_ok rfl (consA_ok (bin_ok (d := .str (nm 0)) (bin_ok rfl rfl (names_at hm h0)) rfl ?_) rfl)) rfl o2
    rfl
  refine ret_ok ?_
  unfold andV
  rw [v1, bind_ok]
  exact v2
end Vi

namespace Vi
open PySem PySem.Spec PyProof.Rows L2
def top (i : Nat) : Stmt := PySem.Challenge.pw_rowjudge_k74_order_of.main.body.getD i (.Pass ⟨0, 0, 0, 0⟩)

structure De (K : PySem.W.Frag) : Prop where
  d__law_asked : ∃ fd, FunD K "_law_asked" "_law_asked" (defArgs (top 52)) (defBody (top 52)) (defScope (top 52)) [] [] (He.fAd K ("_law_asked", none)) fd
  d__law_at : ∃ fd, FunD K "_law_at" "_law_at" (defArgs (top 50)) (defBody (top 50)) (defScope (top 50)) [] [] (He.fAd K ("_law_at", none)) fd
  d__law_folded : ∃ fd, FunD K "_law_folded" "_law_folded" (defArgs (top 51)) (defBody (top 51)) (defScope (top 51)) [] [] (He.fAd K ("_law_folded", none)) fd
  d__law_names : ∃ fd, FunD K "_law_names" "_law_names" (defArgs (top 53)) (defBody (top 53)) (defScope (top 53)) [] [] (He.fAd K ("_law_names", none)) fd
  d_Domain___init__ : ∃ fd, FunD K "__init__" "Domain.__init__" (defArgs (inClass (top 17) 0)) (defBody (inClass (top 17) 0)) (defScope (inClass (top 17) 0)) [] [] (He.fAd K ("Domain", some "__init__")) fd
  d_Numbers___init__ : ∃ fd, FunD K "__init__" "Numbers.__init__" (defArgs (inClass (top 18) 0)) (defBody (inClass (top 18) 0)) (defScope (inClass (top 18) 0)) [] [] (He.fAd K ("Numbers", some "__init__")) fd
  d_is_word : ∃ fd, FunD K "is_word" "is_word" (defArgs (top 16)) (defBody (top 16)) (defScope (top 16)) [] [] (He.fAd K ("is_word", none)) fd
  d_look_at_names : ∃ fd, FunD K "look_at_names" "look_at_names" (defArgs (top 45)) (defBody (top 45)) (defScope (top 45)) [] [] (He.fAd K ("look_at_names", none)) fd
  d_look_at_row : ∃ fd, FunD K "look_at_row" "look_at_row" (defArgs (top 46)) (defBody (top 46)) (defScope (top 46)) [] [] (He.fAd K ("look_at_row", none)) fd
  d_own_rows : ∃ fd, FunD K "own_rows" "own_rows" (defArgs (top 47)) (defBody (top 47)) (defScope (top 47)) [] [] (He.fAd K ("own_rows", none)) fd
  d_Way___init__ : ∃ fd, FunD K "__init__" "Way.__init__" (defArgs (inClass (top 34) 0)) (defBody (inClass (top 34) 0)) (defScope (inClass (top 34) 0)) [] [] (He.fAd K ("Way", some "__init__")) fd
  d_First___init__ : ∃ fd, FunD K "__init__" "First.__init__" (defArgs (inClass (top 35) 0)) (defBody (inClass (top 35) 0)) (defScope (inClass (top 35) 0)) [] [] (He.fAd K ("First", some "__init__")) fd
  d_High___init__ : ∃ fd, FunD K "__init__" "High.__init__" (defArgs (inClass (top 39) 0)) (defBody (inClass (top 39) 0)) (defScope (inClass (top 39) 0)) [] [] (He.fAd K ("High", some "__init__")) fd
  d_Like___init__ : ∃ fd, FunD K "__init__" "Like.__init__" (defArgs (inClass (top 37) 0)) (defBody (inClass (top 37) 0)) (defScope (inClass (top 37) 0)) [] [] (He.fAd K ("Like", some "__init__")) fd
  d_Low___init__ : ∃ fd, FunD K "__init__" "Low.__init__" (defArgs (inClass (top 38) 0)) (defBody (inClass (top 38) 0)) (defScope (inClass (top 38) 0)) [] [] (He.fAd K ("Low", some "__init__")) fd
  d_Only___init__ : ∃ fd, FunD K "__init__" "Only.__init__" (defArgs (inClass (top 36) 0)) (defBody (inClass (top 36) 0)) (defScope (inClass (top 36) 0)) [] [] (He.fAd K ("Only", some "__init__")) fd
  d_Sum___init__ : ∃ fd, FunD K "__init__" "Sum.__init__" (defArgs (inClass (top 40) 0)) (defBody (inClass (top 40) 0)) (defScope (inClass (top 40) 0)) [] [] (He.fAd K ("Sum", some "__init__")) fd
  d_way_by : ∃ fd, FunD K "way_by" "way_by" (defArgs (top 41)) (defBody (top 41)) (defScope (top 41)) [] [] (He.fAd K ("way_by", none)) fd
  d_Table___init__ : ∃ fd, FunD K "__init__" "Table.__init__" (defArgs (inClass (top 48) 0)) (defBody (inClass (top 48) 0)) (defScope (inClass (top 48) 0)) [] [] (He.fAd K ("Table", some "__init__")) fd
  d__law_net_table : ∃ fd, FunD K "_law_net_table" "_law_net_table" (defArgs (top 54)) (defBody (top 54)) (defScope (top 54)) [] [] (He.fAd K ("_law_net_table", none)) fd
  d_table_of : ∃ fd, FunD K "table_of" "table_of" (defArgs (top 29)) (defBody (top 29)) (defScope (top 29)) [] [] (He.fAd K ("table_of", none)) fd
  d_asks : ∃ fd, FunD K "asks" "asks" (defArgs (top 30)) (defBody (top 30)) (defScope (top 30)) [] [] (He.fAd K ("asks", none)) fd
  d_gathered : ∃ fd, FunD K "gathered" "gathered" (defArgs (top 31)) (defBody (top 31)) (defScope (top 31)) [] [] (He.fAd K ("gathered", none)) fd
  d_order_of : ∃ fd, FunD K "order_of" "order_of" (defArgs (top 32)) (defBody (top 32)) (defScope (top 32)) [] [] (He.fAd K ("order_of", none)) fd
  d__law_no_table : ∃ fd, FunD K "_law_no_table" "_law_no_table" (defArgs (top 56)) (defBody (top 56)) (defScope (top 56)) [] [] (He.fAd K ("_law_no_table", none)) fd
  d__law_order : ∃ fd, FunD K "_law_order" "_law_order" (defArgs (top 55)) (defBody (top 55)) (defScope (top 55)) [] [] (He.fAd K ("_law_order", none)) fd
  d_alike : ∃ fd, FunD K "alike" "alike" (defArgs (top 20)) (defBody (top 20)) (defScope (top 20)) [] [] (He.fAd K ("alike", none)) fd
  d_look_at_columns : ∃ fd, FunD K "look_at_columns" "look_at_columns" (defArgs (top 25)) (defBody (top 25)) (defScope (top 25)) [] [] (He.fAd K ("look_at_columns", none)) fd
  d_free_of : ∃ fd, FunD K "free_of" "free_of" (defArgs (top 26)) (defBody (top 26)) (defScope (top 26)) [] [] (He.fAd K ("free_of", none)) fd
  d_look_for_rings : ∃ fd, FunD K "look_for_rings" "look_for_rings" (defArgs (top 27)) (defBody (top 27)) (defScope (top 27)) [] [] (He.fAd K ("look_for_rings", none)) fd
  d_named_domains : ∃ fd, FunD K "named_domains" "named_domains" (defArgs (top 24)) (defBody (top 24)) (defScope (top 24)) [] [] (He.fAd K ("named_domains", none)) fd
  d_Book___init__ : ∃ fd, FunD K "__init__" "Book.__init__" (defArgs (inClass (top 28) 0)) (defBody (inClass (top 28) 0)) (defScope (inClass (top 28) 0)) [] [] (He.fAd K ("Book", some "__init__")) fd
  d_law : ∃ fd, FunD K "law" "law" (defArgs (top 57)) (defBody (top 57)) (defScope (top 57)) [] [] (He.fAd K ("law", none)) fd
structure Fx (K : PySem.W.Frag) (mg : Str → Option Value) : Prop where
  n_range : mg "range" = none
  n_len : mg "len" = none
  n_list : mg "list" = none
  i_list : IsiE K (SG K) (.type "list") [(0, false), (1, false), (2, false), (3, false), (4, true), (5, false), (6, false)]
  n_isinstance : mg "isinstance" = none
  e_BadDomain : ExcE K mg (SG K) "BadDomain" 2
  s_low : ∀ c ∈ ([9, 10] : List Nat), FldOk (SG K) K c "low" 0 ∧ 0 < 900
  s_high : ∀ c ∈ ([9, 10] : List Nat), FldOk (SG K) K c "high" 1 ∧ 1 < 900
  g_MOST_COLUMNS : ∃ u, mg "MOST_COLUMNS" = some u ∧ RelV (.int 4 : D).fv u
  g_MOST_ROWS : ∃ u, mg "MOST_ROWS" = some u ∧ RelV (.int 200 : D).fv u
  e_TooMany : ExcE K mg (SG K) "TooMany" 5
  c_Words : mg "Words" = some (.ref (He.ga K "Words"))
  i_Words : IsiE K (SG K) (.ref (He.ga K "Words")) [(17, false), (18, true)]
  e_BadWay : ExcE K mg (SG K) "BadWay" 3
  s_name : ∀ c ∈ ([18] : List Nat), FldOk (SG K) K c "name" 0 ∧ 0 < 900
  s_names : ∀ c ∈ ([18] : List Nat), FldOk (SG K) K c "names" 1 ∧ 1 < 900
  s_domains : ∀ c ∈ ([18] : List Nat), FldOk (SG K) K c "domains" 2 ∧ 2 < 900
  s_outcome : ∀ c ∈ ([18] : List Nat), FldOk (SG K) K c "outcome" 3 ∧ 3 < 900
  s_way : ∀ c ∈ ([18] : List Nat), FldOk (SG K) K c "way" 4 ∧ 4 < 900
  s_rows : ∀ c ∈ ([18] : List Nat), FldOk (SG K) K c "rows" 5 ∧ 5 < 900
  e_BadName : ExcE K mg (SG K) "BadName" 1
  g_MOST_SIGNS : ∃ u, mg "MOST_SIGNS" = some u ∧ RelV (.int 12 : D).fv u
  g_LETTERS : ∃ u, mg "LETTERS" = some u ∧ RelV (.str "abcdefghijklmnopqrstuvwxyz" : D).fv u
  n_all : mg "all" = none
  e_BadRow : ExcE K mg (SG K) "BadRow" 4
  n_zip : mg "zip" = none
  f_low : ∀ c ∈ ([9, 10] : List Nat), FldOk (SG K) K c "low" 0
  f_high : ∀ c ∈ ([9, 10] : List Nat), FldOk (SG K) K c "high" 1
  s_called : ∀ c ∈ ([12, 13, 14, 15, 16, 17] : List Nat), FldOk (SG K) K c "called" 0 ∧ 0 < 900
  c_NoTable : mg "NoTable" = some (.ref (He.ga K "NoTable"))
  h_NoTable : ∀ q ∈ ([(0, false), (1, false), (2, false), (3, false), (4, false), (5, false), (7, false), (20, false), (25, true), (23, false)] : List (Nat × Bool)), PySem.W.exmOne K (cl (SG K) q.1) (.ref (He.ga K "NoTable")) = some q.2
  f_tables : ∀ c ∈ ([24] : List Nat), FldOk (SG K) K c "tables" 1
  f_name : ∀ c ∈ ([18] : List Nat), FldOk (SG K) K c "name" 0
  f_names : ∀ c ∈ ([18] : List Nat), FldOk (SG K) K c "names" 1
  e_NoTable : ExcE K mg (SG K) "NoTable" 25
  g_MOST_FACTS : ∃ u, mg "MOST_FACTS" = some u ∧ RelV (.int 20 : D).fv u
  g_MOST_TABLES : ∃ u, mg "MOST_TABLES" = some u ∧ RelV (.int 30 : D).fv u
  s_facts : ∀ c ∈ ([24] : List Nat), FldOk (SG K) K c "facts" 0 ∧ 0 < 900
  s_tables : ∀ c ∈ ([24] : List Nat), FldOk (SG K) K c "tables" 1 ∧ 1 < 900
  f_domains : ∀ c ∈ ([18] : List Nat), FldOk (SG K) K c "domains" 2
  e_Unlike : ExcE K mg (SG K) "Unlike" 20
  f_words : ∀ c ∈ ([10] : List Nat), FldOk (SG K) K c "words" 2
  c_Numbers : mg "Numbers" = some (.ref (He.ga K "Numbers"))
  i_Numbers : IsiE K (SG K) (.ref (He.ga K "Numbers")) [(17, true), (18, false)]
  e_Ring : ExcE K mg (SG K) "Ring" 23
  f_outcome : ∀ c ∈ ([18] : List Nat), FldOk (SG K) K c "outcome" 3
  m__law_asked : mg "_law_asked" = some (.ref (He.fAd K ("_law_asked", none)))
  m__law_at : mg "_law_at" = some (.ref (He.fAd K ("_law_at", none)))
  m__law_folded : mg "_law_folded" = some (.ref (He.fAd K ("_law_folded", none)))
  m__law_names : mg "_law_names" = some (.ref (He.fAd K ("_law_names", none)))
  c_Domain : mg "Domain" = some (.ref (He.ga K "Domain"))
  b_Domain : ∃ mc, ClX.CRead K (He.ga K "Domain") mc ∧ ClX.CVal K (He.ga K "Domain") mc "__init__" (.ref (He.fAd K ("Domain", some "__init__"))) (.ref (He.fAd K ("Domain", some "__init__")))
  mk_Numbers : Mk K (He.ga K "Numbers") (He.fAd K ("Numbers", some "__init__"))
  m_is_word : mg "is_word" = some (.ref (He.fAd K ("is_word", none)))
  m_look_at_names : mg "look_at_names" = some (.ref (He.fAd K ("look_at_names", none)))
  m_look_at_row : mg "look_at_row" = some (.ref (He.fAd K ("look_at_row", none)))
  m_own_rows : mg "own_rows" = some (.ref (He.fAd K ("own_rows", none)))
  c_Way : mg "Way" = some (.ref (He.ga K "Way"))
  b_Way : ∃ mc, ClX.CRead K (He.ga K "Way") mc ∧ ClX.CVal K (He.ga K "Way") mc "__init__" (.ref (He.fAd K ("Way", some "__init__"))) (.ref (He.fAd K ("Way", some "__init__")))
  c_First : mg "First" = some (.ref (He.ga K "First"))
  mk_First : Mk K (He.ga K "First") (He.fAd K ("First", some "__init__"))
  c_High : mg "High" = some (.ref (He.ga K "High"))
  mk_High : Mk K (He.ga K "High") (He.fAd K ("High", some "__init__"))
  c_Like : mg "Like" = some (.ref (He.ga K "Like"))
  mk_Like : Mk K (He.ga K "Like") (He.fAd K ("Like", some "__init__"))
  c_Low : mg "Low" = some (.ref (He.ga K "Low"))
  mk_Low : Mk K (He.ga K "Low") (He.fAd K ("Low", some "__init__"))
  c_Only : mg "Only" = some (.ref (He.ga K "Only"))
  mk_Only : Mk K (He.ga K "Only") (He.fAd K ("Only", some "__init__"))
  c_Sum : mg "Sum" = some (.ref (He.ga K "Sum"))
  mk_Sum : Mk K (He.ga K "Sum") (He.fAd K ("Sum", some "__init__"))
  m_way_by : mg "way_by" = some (.ref (He.fAd K ("way_by", none)))
  c_Table : mg "Table" = some (.ref (He.ga K "Table"))
  mk_Table : Mk K (He.ga K "Table") (He.fAd K ("Table", some "__init__"))
  m__law_net_table : mg "_law_net_table" = some (.ref (He.fAd K ("_law_net_table", none)))
  m_table_of : mg "table_of" = some (.ref (He.fAd K ("table_of", none)))
  m_asks : mg "asks" = some (.ref (He.fAd K ("asks", none)))
  m_gathered : mg "gathered" = some (.ref (He.fAd K ("gathered", none)))
  m_order_of : mg "order_of" = some (.ref (He.fAd K ("order_of", none)))
  m__law_no_table : mg "_law_no_table" = some (.ref (He.fAd K ("_law_no_table", none)))
  m__law_order : mg "_law_order" = some (.ref (He.fAd K ("_law_order", none)))
  m_alike : mg "alike" = some (.ref (He.fAd K ("alike", none)))
  m_look_at_columns : mg "look_at_columns" = some (.ref (He.fAd K ("look_at_columns", none)))
  m_free_of : mg "free_of" = some (.ref (He.fAd K ("free_of", none)))
  m_look_for_rings : mg "look_for_rings" = some (.ref (He.fAd K ("look_for_rings", none)))
  m_named_domains : mg "named_domains" = some (.ref (He.fAd K ("named_domains", none)))
  c_Book : mg "Book" = some (.ref (He.ga K "Book"))
  mk_Book : Mk K (He.ga K "Book") (He.fAd K ("Book", some "__init__"))
abbrev st__law_asked : Stmt := (top 52)
abbrev N__law_asked : List Str := ["number", "k", "most", "mode", "loose", "asked", "j", "target"]
abbrev P__law_asked : List Str := ["number", "k", "most", "mode"]
theorem sc__law_asked : FnScope N__law_asked P__law_asked (defScope st__law_asked) := ⟨rfl, rfl, rfl, by decide +kernel, rfl, by decide +kernel, by decide +kernel⟩
theorem ok__law_asked {P : Program} {w : World} {K : PySem.W.Frag} {mg : Str → Option Value} {base : Heap} (fx : Fx K mg) (de : De K) : FnE P w K mg base (SG K) 1 "_law_asked" 4 f__law_asked := by
  obtain ⟨fd, F⟩ := de.d__law_asked
  exact fnE_of fx.m__law_asked F.kp (mk_ok (k := 0) (N := N__law_asked) (ps := P__law_asked) F sc__law_asked fun B W cdv A outer st H E hr tk hx =>
  (s_cons (s_set 4 sc__law_asked.nd (v_or (p_eq hr.units (p_ob 3) (p_bor p_int)) (v_one (v_and (p_eq hr.units (p_ob 3) (p_bor p_int)) (v_one (p_eq hr.units (p_bor (p_mod (p_div (p_div (p_v 0) (p_v 2)) (p_v 2)) p_int)) (p_bor p_int)))))))
  (s_cons (s_own 5 sc__law_asked.nd a_nil)
  (s_cons (s_for hx rfl (j_rng1 p_int fx.n_range) (g_nm 6 sc__law_asked.nd)
   (s_cons (s_set 7 sc__law_asked.nd (p_mod (p_v 0) (p_v 2)))
   (s_cons (s_set 0 sc__law_asked.nd (p_div (p_v 0) (p_v 2)))
   (s_one (s_if (t_w (t_and (t_ne hr.units (p_ob 7) (p_ob 1)) (t_and (t_notIn (u1 hr) (p_ob 7) (p_ob 5)) (t_and1 (t_w (t_or (t_lt (p_v 7) (p_v 1)) (t_or1 (t_v (p_v 4)))))))))
    (s_one (s_app 5 (p_v 7)))
    s_nil)))))
  (s_one (s_frz [5] (s_ret (p_v 5)))))))) (F.bindsN fun _ _ _ _ _ _ us hl => match us, hl with | [_, _, _, _], _ => rfl)
abbrev st__law_at : Stmt := (top 50)
abbrev N__law_at : List Str := ["script", "k"]
abbrev P__law_at : List Str := ["script", "k"]
theorem sc__law_at : FnScope N__law_at P__law_at (defScope st__law_at) := ⟨rfl, rfl, rfl, by decide +kernel, rfl, by decide +kernel, by decide +kernel⟩
theorem ok__law_at {P : Program} {w : World} {K : PySem.W.Frag} {mg : Str → Option Value} {base : Heap} (fx : Fx K mg) (de : De K) : FnE P w K mg base (SG K) 1 "_law_at" 2 f__law_at := by
  obtain ⟨fd, F⟩ := de.d__law_at
  exact fnE_of fx.m__law_at F.kp (mk_ok (k := 0) (N := N__law_at) (ps := P__law_at) F sc__law_at fun B W cdv A outer st H E hr tk hx =>
  (s_cons (s_if (t_lt (p_v 1) (p_len (p_ob 0) fx.n_len))
   (s_one (s_ret (p_subs (u1 hr) (p_o 0) (p_v 1))))
   s_nil)
  (s_one (s_ret p_int)))) (F.bindsN fun _ _ _ _ _ _ us hl => match us, hl with | [_, _], _ => rfl)
abbrev st__law_folded : Stmt := (top 51)
abbrev N__law_folded : List Str := ["script", "most", "numbers", "k", "kept"]
abbrev P__law_folded : List Str := ["script", "most"]
theorem sc__law_folded : FnScope N__law_folded P__law_folded (defScope st__law_folded) := ⟨rfl, rfl, rfl, by decide +kernel, rfl, by decide +kernel, by decide +kernel⟩
theorem ok__law_folded {P : Program} {w : World} {K : PySem.W.Frag} {mg : Str → Option Value} {base : Heap} (fx : Fx K mg) (de : De K) : FnE P w K mg base (SG K) 1 "_law_folded" 2 f__law_folded := by
  obtain ⟨fd, F⟩ := de.d__law_folded
  exact fnE_of fx.m__law_folded F.kp (mk_ok (k := 0) (N := N__law_folded) (ps := P__law_folded) F sc__law_folded fun B W cdv A outer st H E hr tk hx =>
  (s_cons (s_ownLc 2 rfl sc__law_folded.nd (j_rng1 (p_v 1) fx.n_range) (blkOk_by (own := [("k", 3)]) (by rfl)) (by decide) ⟨_, tg_nm 3, fun _ _ _ _ _ => pg_name sc__law_folded.nd rfl (by first | exact Or.inl rfl | exact Or.inr rfl) (by first | exact .inl rfl | exact .inr rfl)⟩ (fun _ _ _ _ _ => f_nil) (fun _ _ _ _ _ => p_int) (.inl ⟨rfl, rfl, sw_true rfl rfl rfl (by decide +kernel)⟩))
  (s_cons (s_for hx rfl (j_rng2 p_int (p_len (p_ob 0) fx.n_len) fx.n_range) (g_nm 3 sc__law_folded.nd)
   (s_cons (s_set 4 sc__law_folded.nd (p_add (p_mul (p_subs (u1 hr) (p_o 2) (p_mod (p_v 3) (p_v 1))) p_int) (p_mod (p_subs (u1 hr) (p_o 0) (p_v 3)) (p_pow p_int p_int))))
   (s_one (s_setIx 2 (p_mod (p_v 3) (p_v 1)) (p_mod (p_v 4) (p_pow p_int p_int))))))
  (s_one (s_frz [2] (s_ret (p_v 2))))))) (F.bindsN fun _ _ _ _ _ _ us hl => match us, hl with | [_, _], _ => rfl)
abbrev st__law_names : Stmt := (top 53)
abbrev N__law_names : List Str := ["most", "letters", "k"]
abbrev P__law_names : List Str := ["most"]
theorem sc__law_names : FnScope N__law_names P__law_names (defScope st__law_names) := ⟨rfl, rfl, rfl, by decide +kernel, rfl, by decide +kernel, by decide +kernel⟩
theorem ok__law_names {P : Program} {w : World} {K : PySem.W.Frag} {mg : Str → Option Value} {base : Heap} (fx : Fx K mg) (de : De K) : FnE P w K mg base (SG K) 1 "_law_names" 1 f__law_names := by
  obtain ⟨fd, F⟩ := de.d__law_names
  exact fnE_of fx.m__law_names F.kp (mk_ok (k := 0) (N := N__law_names) (ps := P__law_names) F sc__law_names fun B W cdv A outer st H E hr tk hx =>
  (s_cons (s_set 1 sc__law_names.nd p_str)
  (s_one (s_ret (p_lc (β := true) (tt := sT (SG K) B W0 yesT) rfl sc__law_names.nd (j_rng1 (p_v 0) fx.n_range) (blkOk_by (own := [("k", 2)]) (by rfl)) (by decide) ⟨_, tg_nm 2, fun _ _ _ _ _ => pg_name sc__law_names.nd rfl (by first | exact Or.inl rfl | exact Or.inr rfl) (by first | exact .inl rfl | exact .inr rfl)⟩ (fun _ _ _ _ _ => f_nil) (fun _ _ _ _ _ => (p_add (p_add (p_subs (u1 hr) (p_si (p_lst (a_cons p_str (a_cons p_str (a_cons p_str a_nil))))) (p_mod (p_v 2) p_int)) (p_subs (u1 hr) (p_o 1) (p_v 2))) (p_subs (u1 hr) (p_si (p_lst (a_cons p_str (a_cons p_str (a_cons p_str a_nil))))) (p_div (p_v 2) p_int))))))))) (F.bindsN fun _ _ _ _ _ _ us hl => match us, hl with | [_], _ => rfl)
abbrev st_Domain___init__ : Stmt := (inClass (top 17) 0)
abbrev N_Domain___init__ : List Str := ["self", "low", "high"]
abbrev P_Domain___init__ : List Str := ["self", "low", "high"]
theorem sc_Domain___init__ : FnScope N_Domain___init__ P_Domain___init__ (defScope st_Domain___init__) := ⟨rfl, rfl, rfl, by decide +kernel, rfl, by decide +kernel, by decide +kernel⟩
theorem oki_Domain {P : Program} {w : World} {K : PySem.W.Frag} {mg : Str → Option Value} {base : Heap} (fx : Fx K mg) (de : De K) {f : Addr} {fd : FuncData} (F : FunD K "__init__" "Domain.__init__" (defArgs st_Domain___init__) (defBody st_Domain___init__) (defScope st_Domain___init__) [] [] f fd) : InitE P w K mg base (SG K) 1 f 2 i_Domain :=
  mk_init (k := 0) (N := N_Domain___init__) (ps := P_Domain___init__.tail) F sc_Domain___init__ (F.bindsN fun _ _ _ _ _ _ us hl => match us, hl with | [_, _, _], _ => rfl) fun B W cdv A outer st H E hr tk hx =>
  (s_cons (s_fld 0 fx.s_low (p_v 1))
  (s_one (s_fld 0 fx.s_high (p_v 2))))
theorem ba_Domain {P : Program} {w : World} {K : PySem.W.Frag} {mg : Str → Option Value} {base : Heap} (fx : Fx K mg) (de : De K) : BaseE P w K mg base (SG K) 1 "Domain" 2 i_Domain := by
  obtain ⟨fd, F⟩ := de.d_Domain___init__
  obtain ⟨mc, h1, h2⟩ := fx.b_Domain
  exact ⟨_, mc, _, fx.c_Domain, h1, h2, F.kp, oki_Domain fx de F⟩
abbrev st_Numbers___init__ : Stmt := (inClass (top 18) 0)
abbrev N_Numbers___init__ : List Str := ["self", "low", "high"]
abbrev P_Numbers___init__ : List Str := ["self", "low", "high"]
theorem sc_Numbers___init__ : FnScope N_Numbers___init__ P_Numbers___init__ (defScope st_Numbers___init__) := ⟨rfl, rfl, rfl, by decide +kernel, rfl, by decide +kernel, by decide +kernel⟩
theorem oki_Numbers {P : Program} {w : World} {K : PySem.W.Frag} {mg : Str → Option Value} {base : Heap} (fx : Fx K mg) (de : De K) {f : Addr} {fd : FuncData} (F : FunD K "__init__" "Numbers.__init__" (defArgs st_Numbers___init__) (defBody st_Numbers___init__) (defScope st_Numbers___init__) [] [] f fd) : InitE P w K mg base (SG K) 2 f 2 i_Numbers :=
  mk_init (k := 1) (N := N_Numbers___init__) (ps := P_Numbers___init__.tail) F sc_Numbers___init__ (F.bindsN fun _ _ _ _ _ _ us hl => match us, hl with | [_, _, _], _ => rfl) fun B W cdv A outer st H E hr tk hx =>
  (s_cons (s_if (t_gt (p_v 1) (p_v 2))
   (s_one (s_raise fx.e_BadDomain rfl tk))
   s_nil)
  (s_one (s_init 0 (ba_Domain fx de) (hr.mono (by omega)) tk (a_cons (p_v 1) (a_cons (p_v 2) a_nil)))))
theorem mk_Numbers {P : Program} {w : World} {K : PySem.W.Frag} {mg : Str → Option Value} {base : Heap} (fx : Fx K mg) (de : De K) : MkE P w K mg base (SG K) 2 "Numbers" 9 2 i_Numbers := by
  obtain ⟨fd, F⟩ := de.d_Numbers___init__
  exact ⟨_, fx.c_Numbers, fx.mk_Numbers, oki_Numbers fx de F⟩
abbrev st_is_word : Stmt := (top 16)
abbrev N_is_word : List Str := ["text", "sign"]
abbrev P_is_word : List Str := ["text"]
theorem sc_is_word : FnScope N_is_word P_is_word (defScope st_is_word) := ⟨rfl, rfl, rfl, by decide +kernel, rfl, by decide +kernel, by decide +kernel⟩
theorem ok_is_word {P : Program} {w : World} {K : PySem.W.Frag} {mg : Str → Option Value} {base : Heap} (fx : Fx K mg) (de : De K) : FnE P w K mg base (SG K) 1 "is_word" 1 f_is_word := by
  obtain ⟨fd, F⟩ := de.d_is_word
  exact fnE_of fx.m_is_word F.kp (mk_ok (k := 0) (N := N_is_word) (ps := P_is_word) F sc_is_word fun B W cdv A outer st H E hr tk hx =>
  (s_cons (s_if (t_w (t_or (t_eq hr.units (p_ob 0) (p_bor p_str)) (t_or1 (t_not (t_chain op_le op_le p_int (p_len (p_ob 0) fx.n_len) (p_glob fx.g_MOST_SIGNS))))))
   (s_one (s_ret p_bl))
   s_nil)
  (s_one (s_ret (p_all rfl (p_bor (p_lc (β := true) (tt := sT (SG K) B W0 yesT) rfl sc_is_word.nd (j_seq (p_v 0)) (blkOk_by (own := [("sign", 1)]) (by rfl)) (by decide) ⟨_, tg_nm 1, fun _ _ _ _ _ => pg_name sc_is_word.nd rfl (by first | exact Or.inl rfl | exact Or.inr rfl) (by first | exact .inl rfl | exact .inr rfl)⟩ (fun _ _ _ _ _ => f_nil) (fun _ _ _ _ _ => (p_in (u1 hr) (p_ob 1) (p_bor (p_glob fx.g_LETTERS)))))) fx.n_all))))) (F.bindsN fun _ _ _ _ _ _ us hl => match us, hl with | [_], _ => rfl)
abbrev st_look_at_names : Stmt := (top 45)
abbrev N_look_at_names : List Str := ["name", "names", "seen", "word"]
abbrev P_look_at_names : List Str := ["name", "names"]
theorem sc_look_at_names : FnScope N_look_at_names P_look_at_names (defScope st_look_at_names) := ⟨rfl, rfl, rfl, by decide +kernel, rfl, by decide +kernel, by decide +kernel⟩
theorem ok_look_at_names {P : Program} {w : World} {K : PySem.W.Frag} {mg : Str → Option Value} {base : Heap} (fx : Fx K mg) (de : De K) : FnE P w K mg base (SG K) 2 "look_at_names" 2 f_look_at_names := by
  obtain ⟨fd, F⟩ := de.d_look_at_names
  exact fnE_of fx.m_look_at_names F.kp (mk_ok (k := 1) (N := N_look_at_names) (ps := P_look_at_names) F sc_look_at_names fun B W cdv A outer st H E hr tk hx =>
  (s_cons (s_own 2 sc_look_at_names.nd (a_cons (p_v 0) a_nil))
  (s_cons (s_if (t_not (t_v (p_call (ok_is_word fx de) (hr.mono (by omega)) tk (a_cons (p_v 0) a_nil))))
   (s_one (s_raise fx.e_BadName rfl tk))
   s_nil)
  (s_one (s_for hx rfl (j_seq (p_v 1)) (g_nm 3 sc_look_at_names.nd)
   (s_cons (s_if (t_w (t_or (t_not (t_v (p_call (ok_is_word fx de) (hr.mono (by omega)) tk (a_cons (p_v 3) a_nil)))) (t_or1 (t_in (u1 hr) (p_ob 3) (p_ob 2)))))
    (s_one (s_raise fx.e_BadName rfl tk))
    s_nil)
   (s_one (s_app 2 (p_v 3))))))))) (F.bindsN fun _ _ _ _ _ _ us hl => match us, hl with | [_, _], _ => rfl)
abbrev st_look_at_row : Stmt := (top 46)
abbrev N_look_at_row : List Str := ["domains", "outcome", "row", "cells", "spans", "domain", "low", "high"]
abbrev P_look_at_row : List Str := ["domains", "outcome", "row"]
theorem sc_look_at_row : FnScope N_look_at_row P_look_at_row (defScope st_look_at_row) := ⟨rfl, rfl, rfl, by decide +kernel, rfl, by decide +kernel, by decide +kernel⟩
theorem ok_look_at_row {P : Program} {w : World} {K : PySem.W.Frag} {mg : Str → Option Value} {base : Heap} (fx : Fx K mg) (de : De K) : FnE P w K mg base (SG K) 1 "look_at_row" 3 f_look_at_row := by
  obtain ⟨fd, F⟩ := de.d_look_at_row
  exact fnE_of fx.m_look_at_row F.kp (mk_ok (k := 0) (N := N_look_at_row) (ps := P_look_at_row) F sc_look_at_row fun B W cdv A outer st H E hr tk hx =>
  (s_cons (s_set 3 sc_look_at_row.nd (p_subs (u1 hr) (p_o 2) p_int))
  (s_cons (s_if (t_ne hr.units (p_bor (p_len (p_ob 3) fx.n_len)) (p_bor (p_len (p_ob 0) fx.n_len)))
   (s_one (s_raise fx.e_BadRow rfl tk))
   s_nil)
  (s_cons (s_for hx rfl (j_zip (p_v 3) (p_v 0) fx.n_zip) (g_tp rfl (g_cons 4 sc_look_at_row.nd (g_cons 5 sc_look_at_row.nd g_nil)))
   (s_one (s_for hx rfl (j_seq (p_v 4)) (g_tp rfl (g_cons 6 sc_look_at_row.nd (g_cons 7 sc_look_at_row.nd g_nil)))
    (s_one (s_if (t_w (t_or (t_lt (p_v 6) (p_fld fx.f_low (p_v 5))) (t_or1 (t_gt (p_v 7) (p_fld fx.f_high (p_v 5))))))
     (s_one (s_raise fx.e_BadRow rfl tk))
     s_nil)))))
  (s_one (s_if (t_w (t_or (t_lt (p_subs (u1 hr) (p_o 2) p_int) (p_fld fx.f_low (p_v 1))) (t_or1 (t_gt (p_subs (u1 hr) (p_o 2) p_int) (p_fld fx.f_high (p_v 1))))))
   (s_one (s_raise fx.e_BadRow rfl tk))
   s_nil)))))) (F.bindsN fun _ _ _ _ _ _ us hl => match us, hl with | [_, _, _], _ => rfl)
abbrev st_own_rows : Stmt := (top 47)
abbrev N_own_rows : List Str := ["rows", "told", "cells", "code", "spans"]
abbrev P_own_rows : List Str := ["rows"]
theorem sc_own_rows : FnScope N_own_rows P_own_rows (defScope st_own_rows) := ⟨rfl, rfl, rfl, by decide +kernel, rfl, by decide +kernel, by decide +kernel⟩
theorem ok_own_rows {P : Program} {w : World} {K : PySem.W.Frag} {mg : Str → Option Value} {base : Heap} (fx : Fx K mg) (de : De K) : FnE P w K mg base (SG K) 1 "own_rows" 1 f_own_rows := by
  obtain ⟨fd, F⟩ := de.d_own_rows
  exact fnE_of fx.m_own_rows F.kp (mk_ok (k := 0) (N := N_own_rows) (ps := P_own_rows) F sc_own_rows fun B W cdv A outer st H E hr tk hx =>
  (s_cons (s_own 1 sc_own_rows.nd a_nil)
  (s_cons (s_for hx rfl (j_seq (p_v 0)) (g_tp rfl (g_cons 2 sc_own_rows.nd (g_cons 3 sc_own_rows.nd g_nil)))
   (s_one (s_app 1 (p_tup (a_cons (p_lc (β := true) (tt := sT (SG K) B W0 yesT) rfl sc_own_rows.nd (j_seq (p_v 2)) (blkOk_by (own := [("spans", 4)]) (by rfl)) (by decide) ⟨_, tg_nm 4, fun _ _ _ _ _ => pg_name sc_own_rows.nd rfl (by first | exact Or.inl rfl | exact Or.inr rfl) (by first | exact .inl rfl | exact .inr rfl)⟩ (fun _ _ _ _ _ => f_nil) (fun _ _ _ _ _ => (p_list (p_o 4) fx.n_list))) (a_cons (p_v 3) a_nil))))))
  (s_one (s_frz [1] (s_ret (p_v 1))))))) (F.bindsN fun _ _ _ _ _ _ us hl => match us, hl with | [_], _ => rfl)
abbrev st_Way___init__ : Stmt := (inClass (top 34) 0)
abbrev N_Way___init__ : List Str := ["self", "called"]
abbrev P_Way___init__ : List Str := ["self", "called"]
theorem sc_Way___init__ : FnScope N_Way___init__ P_Way___init__ (defScope st_Way___init__) := ⟨rfl, rfl, rfl, by decide +kernel, rfl, by decide +kernel, by decide +kernel⟩
theorem oki_Way {P : Program} {w : World} {K : PySem.W.Frag} {mg : Str → Option Value} {base : Heap} (fx : Fx K mg) (de : De K) {f : Addr} {fd : FuncData} (F : FunD K "__init__" "Way.__init__" (defArgs st_Way___init__) (defBody st_Way___init__) (defScope st_Way___init__) [] [] f fd) : InitE P w K mg base (SG K) 1 f 1 i_Way :=
  mk_init (k := 0) (N := N_Way___init__) (ps := P_Way___init__.tail) F sc_Way___init__ (F.bindsN fun _ _ _ _ _ _ us hl => match us, hl with | [_, _], _ => rfl) fun B W cdv A outer st H E hr tk hx =>
  (s_one (s_fld 0 fx.s_called (p_v 1)))
theorem ba_Way {P : Program} {w : World} {K : PySem.W.Frag} {mg : Str → Option Value} {base : Heap} (fx : Fx K mg) (de : De K) : BaseE P w K mg base (SG K) 1 "Way" 1 i_Way := by
  obtain ⟨fd, F⟩ := de.d_Way___init__
  obtain ⟨mc, h1, h2⟩ := fx.b_Way
  exact ⟨_, mc, _, fx.c_Way, h1, h2, F.kp, oki_Way fx de F⟩
abbrev st_First___init__ : Stmt := (inClass (top 35) 0)
abbrev N_First___init__ : List Str := ["self"]
abbrev P_First___init__ : List Str := ["self"]
theorem sc_First___init__ : FnScope N_First___init__ P_First___init__ (defScope st_First___init__) := ⟨rfl, rfl, rfl, by decide +kernel, rfl, by decide +kernel, by decide +kernel⟩
theorem oki_First {P : Program} {w : World} {K : PySem.W.Frag} {mg : Str → Option Value} {base : Heap} (fx : Fx K mg) (de : De K) {f : Addr} {fd : FuncData} (F : FunD K "__init__" "First.__init__" (defArgs st_First___init__) (defBody st_First___init__) (defScope st_First___init__) [] [] f fd) : InitE P w K mg base (SG K) 2 f 0 i_First :=
  mk_init (k := 1) (N := N_First___init__) (ps := P_First___init__.tail) F sc_First___init__ (F.bindsN fun _ _ _ _ _ _ us hl => match us, hl with | [_], _ => rfl) fun B W cdv A outer st H E hr tk hx =>
  (s_one (s_init 0 (ba_Way fx de) (hr.mono (by omega)) tk (a_cons p_str a_nil)))
theorem mk_First {P : Program} {w : World} {K : PySem.W.Frag} {mg : Str → Option Value} {base : Heap} (fx : Fx K mg) (de : De K) : MkE P w K mg base (SG K) 2 "First" 12 0 i_First := by
  obtain ⟨fd, F⟩ := de.d_First___init__
  exact ⟨_, fx.c_First, fx.mk_First, oki_First fx de F⟩
abbrev st_High___init__ : Stmt := (inClass (top 39) 0)
abbrev N_High___init__ : List Str := ["self"]
abbrev P_High___init__ : List Str := ["self"]
theorem sc_High___init__ : FnScope N_High___init__ P_High___init__ (defScope st_High___init__) := ⟨rfl, rfl, rfl, by decide +kernel, rfl, by decide +kernel, by decide +kernel⟩
theorem oki_High {P : Program} {w : World} {K : PySem.W.Frag} {mg : Str → Option Value} {base : Heap} (fx : Fx K mg) (de : De K) {f : Addr} {fd : FuncData} (F : FunD K "__init__" "High.__init__" (defArgs st_High___init__) (defBody st_High___init__) (defScope st_High___init__) [] [] f fd) : InitE P w K mg base (SG K) 2 f 0 i_High :=
  mk_init (k := 1) (N := N_High___init__) (ps := P_High___init__.tail) F sc_High___init__ (F.bindsN fun _ _ _ _ _ _ us hl => match us, hl with | [_], _ => rfl) fun B W cdv A outer st H E hr tk hx =>
  (s_one (s_init 0 (ba_Way fx de) (hr.mono (by omega)) tk (a_cons p_str a_nil)))
theorem mk_High {P : Program} {w : World} {K : PySem.W.Frag} {mg : Str → Option Value} {base : Heap} (fx : Fx K mg) (de : De K) : MkE P w K mg base (SG K) 2 "High" 16 0 i_High := by
  obtain ⟨fd, F⟩ := de.d_High___init__
  exact ⟨_, fx.c_High, fx.mk_High, oki_High fx de F⟩
abbrev st_Like___init__ : Stmt := (inClass (top 37) 0)
abbrev N_Like___init__ : List Str := ["self"]
abbrev P_Like___init__ : List Str := ["self"]
theorem sc_Like___init__ : FnScope N_Like___init__ P_Like___init__ (defScope st_Like___init__) := ⟨rfl, rfl, rfl, by decide +kernel, rfl, by decide +kernel, by decide +kernel⟩
theorem oki_Like {P : Program} {w : World} {K : PySem.W.Frag} {mg : Str → Option Value} {base : Heap} (fx : Fx K mg) (de : De K) {f : Addr} {fd : FuncData} (F : FunD K "__init__" "Like.__init__" (defArgs st_Like___init__) (defBody st_Like___init__) (defScope st_Like___init__) [] [] f fd) : InitE P w K mg base (SG K) 2 f 0 i_Like :=
  mk_init (k := 1) (N := N_Like___init__) (ps := P_Like___init__.tail) F sc_Like___init__ (F.bindsN fun _ _ _ _ _ _ us hl => match us, hl with | [_], _ => rfl) fun B W cdv A outer st H E hr tk hx =>
  (s_one (s_init 0 (ba_Way fx de) (hr.mono (by omega)) tk (a_cons p_str a_nil)))
theorem mk_Like {P : Program} {w : World} {K : PySem.W.Frag} {mg : Str → Option Value} {base : Heap} (fx : Fx K mg) (de : De K) : MkE P w K mg base (SG K) 2 "Like" 14 0 i_Like := by
  obtain ⟨fd, F⟩ := de.d_Like___init__
  exact ⟨_, fx.c_Like, fx.mk_Like, oki_Like fx de F⟩
abbrev st_Low___init__ : Stmt := (inClass (top 38) 0)
abbrev N_Low___init__ : List Str := ["self"]
abbrev P_Low___init__ : List Str := ["self"]
theorem sc_Low___init__ : FnScope N_Low___init__ P_Low___init__ (defScope st_Low___init__) := ⟨rfl, rfl, rfl, by decide +kernel, rfl, by decide +kernel, by decide +kernel⟩
theorem oki_Low {P : Program} {w : World} {K : PySem.W.Frag} {mg : Str → Option Value} {base : Heap} (fx : Fx K mg) (de : De K) {f : Addr} {fd : FuncData} (F : FunD K "__init__" "Low.__init__" (defArgs st_Low___init__) (defBody st_Low___init__) (defScope st_Low___init__) [] [] f fd) : InitE P w K mg base (SG K) 2 f 0 i_Low :=
  mk_init (k := 1) (N := N_Low___init__) (ps := P_Low___init__.tail) F sc_Low___init__ (F.bindsN fun _ _ _ _ _ _ us hl => match us, hl with | [_], _ => rfl) fun B W cdv A outer st H E hr tk hx =>
  (s_one (s_init 0 (ba_Way fx de) (hr.mono (by omega)) tk (a_cons p_str a_nil)))
theorem mk_Low {P : Program} {w : World} {K : PySem.W.Frag} {mg : Str → Option Value} {base : Heap} (fx : Fx K mg) (de : De K) : MkE P w K mg base (SG K) 2 "Low" 15 0 i_Low := by
  obtain ⟨fd, F⟩ := de.d_Low___init__
  exact ⟨_, fx.c_Low, fx.mk_Low, oki_Low fx de F⟩
abbrev st_Only___init__ : Stmt := (inClass (top 36) 0)
abbrev N_Only___init__ : List Str := ["self"]
abbrev P_Only___init__ : List Str := ["self"]
theorem sc_Only___init__ : FnScope N_Only___init__ P_Only___init__ (defScope st_Only___init__) := ⟨rfl, rfl, rfl, by decide +kernel, rfl, by decide +kernel, by decide +kernel⟩
theorem oki_Only {P : Program} {w : World} {K : PySem.W.Frag} {mg : Str → Option Value} {base : Heap} (fx : Fx K mg) (de : De K) {f : Addr} {fd : FuncData} (F : FunD K "__init__" "Only.__init__" (defArgs st_Only___init__) (defBody st_Only___init__) (defScope st_Only___init__) [] [] f fd) : InitE P w K mg base (SG K) 2 f 0 i_Only :=
  mk_init (k := 1) (N := N_Only___init__) (ps := P_Only___init__.tail) F sc_Only___init__ (F.bindsN fun _ _ _ _ _ _ us hl => match us, hl with | [_], _ => rfl) fun B W cdv A outer st H E hr tk hx =>
  (s_one (s_init 0 (ba_Way fx de) (hr.mono (by omega)) tk (a_cons p_str a_nil)))
theorem mk_Only {P : Program} {w : World} {K : PySem.W.Frag} {mg : Str → Option Value} {base : Heap} (fx : Fx K mg) (de : De K) : MkE P w K mg base (SG K) 2 "Only" 13 0 i_Only := by
  obtain ⟨fd, F⟩ := de.d_Only___init__
  exact ⟨_, fx.c_Only, fx.mk_Only, oki_Only fx de F⟩
abbrev st_Sum___init__ : Stmt := (inClass (top 40) 0)
abbrev N_Sum___init__ : List Str := ["self"]
abbrev P_Sum___init__ : List Str := ["self"]
theorem sc_Sum___init__ : FnScope N_Sum___init__ P_Sum___init__ (defScope st_Sum___init__) := ⟨rfl, rfl, rfl, by decide +kernel, rfl, by decide +kernel, by decide +kernel⟩
theorem oki_Sum {P : Program} {w : World} {K : PySem.W.Frag} {mg : Str → Option Value} {base : Heap} (fx : Fx K mg) (de : De K) {f : Addr} {fd : FuncData} (F : FunD K "__init__" "Sum.__init__" (defArgs st_Sum___init__) (defBody st_Sum___init__) (defScope st_Sum___init__) [] [] f fd) : InitE P w K mg base (SG K) 2 f 0 i_Sum :=
  mk_init (k := 1) (N := N_Sum___init__) (ps := P_Sum___init__.tail) F sc_Sum___init__ (F.bindsN fun _ _ _ _ _ _ us hl => match us, hl with | [_], _ => rfl) fun B W cdv A outer st H E hr tk hx =>
  (s_one (s_init 0 (ba_Way fx de) (hr.mono (by omega)) tk (a_cons p_str a_nil)))
theorem mk_Sum {P : Program} {w : World} {K : PySem.W.Frag} {mg : Str → Option Value} {base : Heap} (fx : Fx K mg) (de : De K) : MkE P w K mg base (SG K) 2 "Sum" 17 0 i_Sum := by
  obtain ⟨fd, F⟩ := de.d_Sum___init__
  exact ⟨_, fx.c_Sum, fx.mk_Sum, oki_Sum fx de F⟩
abbrev st_way_by : Stmt := (top 41)
abbrev N_way_by : List Str := ["name"]
abbrev P_way_by : List Str := ["name"]
theorem sc_way_by : FnScope N_way_by P_way_by (defScope st_way_by) := ⟨rfl, rfl, rfl, by decide +kernel, rfl, by decide +kernel, by decide +kernel⟩
theorem ok_way_by {P : Program} {w : World} {K : PySem.W.Frag} {mg : Str → Option Value} {base : Heap} (fx : Fx K mg) (de : De K) : FnE P w K mg base (SG K) 4 "way_by" 1 f_way_by := by
  obtain ⟨fd, F⟩ := de.d_way_by
  exact fnE_of fx.m_way_by F.kp (mk_ok (k := 3) (N := N_way_by) (ps := P_way_by) F sc_way_by fun B W cdv A outer st H E hr tk hx =>
  (s_cons (s_if (t_eq hr.units (p_ob 0) (p_bor p_str))
   (s_one (s_ret (p_make0 (mk_First fx de) rfl (hr.mono (by omega)) tk)))
   s_nil)
  (s_cons (s_if (t_eq hr.units (p_ob 0) (p_bor p_str))
   (s_one (s_ret (p_make0 (mk_Only fx de) rfl (hr.mono (by omega)) tk)))
   s_nil)
  (s_cons (s_if (t_eq hr.units (p_ob 0) (p_bor p_str))
   (s_one (s_ret (p_make0 (mk_Like fx de) rfl (hr.mono (by omega)) tk)))
   s_nil)
  (s_cons (s_if (t_eq hr.units (p_ob 0) (p_bor p_str))
   (s_one (s_ret (p_make0 (mk_Low fx de) rfl (hr.mono (by omega)) tk)))
   s_nil)
  (s_cons (s_if (t_eq hr.units (p_ob 0) (p_bor p_str))
   (s_one (s_ret (p_make0 (mk_High fx de) rfl (hr.mono (by omega)) tk)))
   s_nil)
  (s_cons (s_if (t_eq hr.units (p_ob 0) (p_bor p_str))
   (s_one (s_ret (p_make0 (mk_Sum fx de) rfl (hr.mono (by omega)) tk)))
   s_nil)
  (s_one (s_raise fx.e_BadWay rfl tk))))))))) (F.bindsN fun _ _ _ _ _ _ us hl => match us, hl with | [_], _ => rfl)
abbrev st_Table___init__ : Stmt := (inClass (top 48) 0)
abbrev N_Table___init__ : List Str := ["self", "name", "names", "domains", "outcome", "way", "rows", "row"]
abbrev P_Table___init__ : List Str := ["self", "name", "names", "domains", "outcome", "way", "rows"]
theorem sc_Table___init__ : FnScope N_Table___init__ P_Table___init__ (defScope st_Table___init__) := ⟨rfl, rfl, rfl, by decide +kernel, rfl, by decide +kernel, by decide +kernel⟩
theorem oki_Table {P : Program} {w : World} {K : PySem.W.Frag} {mg : Str → Option Value} {base : Heap} (fx : Fx K mg) (de : De K) {f : Addr} {fd : FuncData} (F : FunD K "__init__" "Table.__init__" (defArgs st_Table___init__) (defBody st_Table___init__) (defScope st_Table___init__) [] [] f fd) : InitE P w K mg base (SG K) 5 f 6 i_Table :=
  mk_init (k := 4) (N := N_Table___init__) (ps := P_Table___init__.tail) F sc_Table___init__ (F.bindsN fun _ _ _ _ _ _ us hl => match us, hl with | [_, _, _, _, _, _, _], _ => rfl) fun B W cdv A outer st H E hr tk hx =>
  (s_cons (s_expr (p_call (ok_look_at_names fx de) (hr.mono (by omega)) tk (a_cons (p_v 1) (a_cons (p_v 2) a_nil))))
  (s_cons (s_if (t_w (t_or (t_eq hr.units (p_bor (p_len (p_ob 2) fx.n_len)) (p_bor p_int)) (t_or (t_gt (p_len (p_ob 2) fx.n_len) (p_glob fx.g_MOST_COLUMNS)) (t_or1 (t_gt (p_len (p_ob 6) fx.n_len) (p_glob fx.g_MOST_ROWS))))))
   (s_one (s_raise fx.e_TooMany rfl tk))
   s_nil)
  (s_cons (s_expr (p_call (ok_way_by fx de) (hr.mono (by omega)) tk (a_cons (p_v 5) a_nil)))
  (s_cons (s_if (t_w (t_and (t_eq hr.units (p_ob 5) (p_bor p_str)) (t_and1 (t_v (p_isi (.own _) fx.i_Words (p_ob 4) (pe_glob rfl fx.c_Words rfl) fx.n_isinstance)))))
   (s_one (s_raise fx.e_BadWay rfl tk))
   s_nil)
  (s_cons (s_for hx rfl (j_seq (p_v 6)) (g_nm 7 sc_Table___init__.nd)
   (s_one (s_expr (p_call (ok_look_at_row fx de) (hr.mono (by omega)) tk (a_cons (p_v 3) (a_cons (p_v 4) (a_cons (p_v 7) a_nil)))))))
  (s_cons (s_fld 0 fx.s_name (p_v 1))
  (s_cons (s_fld 0 fx.s_names (p_list (p_o 2) fx.n_list))
  (s_cons (s_fld 0 fx.s_domains (p_list (p_o 3) fx.n_list))
  (s_cons (s_fld 0 fx.s_outcome (p_v 4))
  (s_cons (s_fld 0 fx.s_way (p_v 5))
  (s_one (s_fld 0 fx.s_rows (p_call (ok_own_rows fx de) (hr.mono (by omega)) tk (a_cons (p_v 6) a_nil))))))))))))))
theorem mk_Table {P : Program} {w : World} {K : PySem.W.Frag} {mg : Str → Option Value} {base : Heap} (fx : Fx K mg) (de : De K) : MkE P w K mg base (SG K) 5 "Table" 18 6 i_Table := by
  obtain ⟨fd, F⟩ := de.d_Table___init__
  exact ⟨_, fx.c_Table, fx.mk_Table, oki_Table fx de F⟩
abbrev st__law_net_table : Stmt := (top 54)
abbrev N__law_net_table : List Str := ["name", "heads", "mode", "outcome", "rows", "k", "head"]
abbrev P__law_net_table : List Str := ["name", "heads", "mode"]
theorem sc__law_net_table : FnScope N__law_net_table P__law_net_table (defScope st__law_net_table) := ⟨rfl, rfl, rfl, by decide +kernel, rfl, by decide +kernel, by decide +kernel⟩
theorem ok__law_net_table {P : Program} {w : World} {K : PySem.W.Frag} {mg : Str → Option Value} {base : Heap} (fx : Fx K mg) (de : De K) : FnE P w K mg base (SG K) 7 "_law_net_table" 3 f__law_net_table := by
  obtain ⟨fd, F⟩ := de.d__law_net_table
  exact fnE_of fx.m__law_net_table F.kp (mk_ok (k := 6) (N := N__law_net_table) (ps := P__law_net_table) F sc__law_net_table fun B W cdv A outer st H E hr tk hx =>
  (s_cons (s_set 3 sc__law_net_table.nd (p_make (mk_Numbers fx de) rfl (hr.mono (by omega)) tk (a_cons p_int (a_cons (p_add p_int (p_v 2)) a_nil))))
  (s_cons (s_setLc 4 rfl sc__law_net_table.nd (j_rng1 p_int fx.n_range) (blkOk_by (own := [("k", 5)]) (by rfl)) (by decide) ⟨_, tg_nm 5, fun _ _ _ _ _ => pg_name sc__law_net_table.nd rfl (by first | exact Or.inl rfl | exact Or.inr rfl) (by first | exact .inl rfl | exact .inr rfl)⟩ (fun _ _ _ _ _ => f_nil) (fun _ _ _ _ _ => (p_tup (a_cons (p_lc (β := true) (tt := sT (SG K) B W0 yesT) rfl sc__law_net_table.nd (j_seq (p_v 1)) (blkOk_by (own := [("head", 6)]) (by rfl)) (by decide) ⟨_, tg_nm 6, fun _ _ _ _ _ => pg_name sc__law_net_table.nd rfl (by first | exact Or.inl rfl | exact Or.inr rfl) (by first | exact .inl rfl | exact .inr rfl)⟩ (fun _ _ _ _ _ => f_nil) (fun _ _ _ _ _ => (p_lst (a_cons (p_tup (a_cons (p_v 5) (a_cons (p_add (p_v 5) p_int) a_nil))) a_nil)))) (a_cons (p_sub p_int (p_v 5)) a_nil)))))
  (s_one (s_ret (p_make (mk_Table fx de) rfl (hr.mono (by omega)) tk (a_cons (p_v 0) (a_cons (p_v 1) (a_cons (p_lc (β := true) (tt := sT (SG K) B W0 yesT) rfl sc__law_net_table.nd (j_seq (p_v 1)) (blkOk_by (own := [("head", 6)]) (by rfl)) (by decide) ⟨_, tg_nm 6, fun _ _ _ _ _ => pg_name sc__law_net_table.nd rfl (by first | exact Or.inl rfl | exact Or.inr rfl) (by first | exact .inl rfl | exact .inr rfl)⟩ (fun _ _ _ _ _ => f_nil) (fun _ _ _ _ _ => (p_make (mk_Numbers fx de) rfl (hr.mono (by omega)) takesW0 (a_cons p_int (a_cons (p_add p_int (p_v 2)) a_nil))))) (a_cons (p_v 3) (a_cons p_str (a_cons (p_v 4) a_nil)))))))))))) (F.bindsN fun _ _ _ _ _ _ us hl => match us, hl with | [_, _, _], _ => rfl)
abbrev st_table_of : Stmt := (top 29)
abbrev N_table_of : List Str := ["book", "name", "table"]
abbrev P_table_of : List Str := ["book", "name"]
theorem sc_table_of : FnScope N_table_of P_table_of (defScope st_table_of) := ⟨rfl, rfl, rfl, by decide +kernel, rfl, by decide +kernel, by decide +kernel⟩
theorem ok_table_of {P : Program} {w : World} {K : PySem.W.Frag} {mg : Str → Option Value} {base : Heap} (fx : Fx K mg) (de : De K) : FnE P w K mg base (SG K) 1 "table_of" 2 f_table_of := by
  obtain ⟨fd, F⟩ := de.d_table_of
  exact fnE_of fx.m_table_of F.kp (mk_ok (k := 0) (N := N_table_of) (ps := P_table_of) F sc_table_of fun B W cdv A outer st H E hr tk hx =>
  (s_cons (s_for hx rfl (j_seq (p_fld fx.f_tables (p_v 0))) (g_nm 2 sc_table_of.nd)
   (s_one (s_if (t_eq hr.units (p_bor (p_fld fx.f_name (p_v 2))) (p_ob 1))
    (s_one (s_ret (p_v 2)))
    s_nil)))
  (s_one (s_raise fx.e_NoTable rfl tk)))) (F.bindsN fun _ _ _ _ _ _ us hl => match us, hl with | [_, _], _ => rfl)
abbrev st_asks : Stmt := (top 30)
abbrev N_asks : List Str := ["book", "name", "names", "table", "column"]
abbrev P_asks : List Str := ["book", "name"]
theorem sc_asks : FnScope N_asks P_asks (defScope st_asks) := ⟨rfl, rfl, rfl, by decide +kernel, rfl, by decide +kernel, by decide +kernel⟩
theorem ok_asks {P : Program} {w : World} {K : PySem.W.Frag} {mg : Str → Option Value} {base : Heap} (fx : Fx K mg) (de : De K) : FnE P w K mg base (SG K) 2 "asks" 2 f_asks := by
  obtain ⟨fd, F⟩ := de.d_asks
  exact fnE_of fx.m_asks F.kp (mk_ok (k := 1) (N := N_asks) (ps := P_asks) F sc_asks fun B W cdv A outer st H E hr tk hx =>
  (s_cons (s_set 2 sc_asks.nd (p_lc (β := true) (tt := sT (SG K) B W0 yesT) rfl sc_asks.nd (j_seq (p_fld fx.f_tables (p_v 0))) (blkOk_by (own := [("table", 3)]) (by rfl)) (by decide) ⟨_, tg_nm 3, fun _ _ _ _ _ => pg_name sc_asks.nd rfl (by first | exact Or.inl rfl | exact Or.inr rfl) (by first | exact .inl rfl | exact .inr rfl)⟩ (fun _ _ _ _ _ => f_nil) (fun _ _ _ _ _ => (p_fld fx.f_name (p_v 3)))))
  (s_one (s_ret (p_lc (β := true) (tt := sT (SG K) B W0 (tV (bin oIn (bD 4) (bD 2)))) rfl sc_asks.nd (j_seq (p_fld fx.f_names (p_call (ok_table_of fx de) (hr.mono (by omega)) tk (a_cons (p_v 0) (a_cons (p_v 1) a_nil))))) (blkOk_by (own := [("column", 4)]) (by rfl)) (by decide) ⟨_, tg_nm 4, fun _ _ _ _ _ => pg_name sc_asks.nd rfl (by first | exact Or.inl rfl | exact Or.inr rfl) (by first | exact .inl rfl | exact .inr rfl)⟩ (fun _ _ _ _ _ => f_one (t_in (u1 hr) (p_ob 4) (p_ob 2))) (fun _ _ _ _ _ => (p_v 4))))))) (F.bindsN fun _ _ _ _ _ _ us hl => match us, hl with | [_, _], _ => rfl)
abbrev st_gathered : Stmt := (top 31)
abbrev N_gathered : List Str := ["book", "name", "told", "asked"]
abbrev P_gathered : List Str := ["book", "name", "told"]
theorem sc_gathered : FnScope N_gathered P_gathered (defScope st_gathered) := ⟨rfl, rfl, rfl, by decide +kernel, rfl, by decide +kernel, by decide +kernel⟩
theorem ok_gathered {P : Program} {w : World} {K : PySem.W.Frag} {mg : Str → Option Value} {base : Heap} (fx : Fx K mg) (de : De K) (n : Nat) : FnE P w K mg base (SG K) (3 + n) "gathered" 3 (f_gathered n) := by
  obtain ⟨fd, F⟩ := de.d_gathered
  induction n with
  | zero => exact fnE_of fx.m_gathered F.kp (mk_ok (k := 2) (N := N_gathered) (ps := P_gathered) F sc_gathered fun B W cdv A outer st H E hr tk hx => s_bad) (F.bindsN fun _ _ _ _ _ _ us hl => match us, hl with | [_, _, _], _ => rfl)
  | succ n ih => exact fnE_of fx.m_gathered F.kp (mk_ok (k := 3 + n) (N := N_gathered) (ps := P_gathered) F sc_gathered fun B W cdv A outer st H E hr tk hx =>
  (s_cons (s_if (t_in (u1 hr) (p_ob 1) (p_ob 2))
   (s_one (s_ret (p_v 2)))
   s_nil)
  (s_cons (s_for hx rfl (j_seq (p_call (ok_asks fx de) (hr.mono (by omega)) tk (a_cons (p_v 0) (a_cons (p_v 1) a_nil)))) (g_nm 3 sc_gathered.nd)
   (s_one (s_set 2 sc_gathered.nd (p_call ih (hr.mono (by omega)) tk (a_cons (p_v 0) (a_cons (p_v 3) (a_cons (p_v 2) a_nil)))))))
  (s_one (s_ret (p_add (p_v 2) (p_lst (a_cons (p_v 1) a_nil)))))))) (F.bindsN fun _ _ _ _ _ _ us hl => match us, hl with | [_, _, _], _ => rfl)
abbrev st_order_of : Stmt := (top 32)
abbrev N_order_of : List Str := ["book", "name"]
abbrev P_order_of : List Str := ["book", "name"]
theorem sc_order_of : FnScope N_order_of P_order_of (defScope st_order_of) := ⟨rfl, rfl, rfl, by decide +kernel, rfl, by decide +kernel, by decide +kernel⟩
theorem ok_order_of {P : Program} {w : World} {K : PySem.W.Frag} {mg : Str → Option Value} {base : Heap} (fx : Fx K mg) (de : De K) : FnE P w K mg base (SG K) 44 "order_of" 2 f_order_of := by
  obtain ⟨fd, F⟩ := de.d_order_of
  exact fnE_of fx.m_order_of F.kp (mk_ok (k := 43) (N := N_order_of) (ps := P_order_of) F sc_order_of fun B W cdv A outer st H E hr tk hx =>
  (s_one (s_ret (p_call (ok_gathered fx de 40) (hr.mono (by omega)) tk (a_cons (p_v 0) (a_cons (p_v 1) (a_cons (p_lst a_nil) a_nil))))))) (F.bindsN fun _ _ _ _ _ _ us hl => match us, hl with | [_, _], _ => rfl)
abbrev st__law_no_table : Stmt := (top 56)
abbrev N__law_no_table : List Str := ["book", "name", "refused"]
abbrev P__law_no_table : List Str := ["book", "name"]
theorem sc__law_no_table : FnScope N__law_no_table P__law_no_table (defScope st__law_no_table) := ⟨rfl, rfl, rfl, by decide +kernel, rfl, by decide +kernel, by decide +kernel⟩
theorem ok__law_no_table {P : Program} {w : World} {K : PySem.W.Frag} {mg : Str → Option Value} {base : Heap} (fx : Fx K mg) (de : De K) : FnE P w K mg base (SG K) 45 "_law_no_table" 2 f__law_no_table := by
  obtain ⟨fd, F⟩ := de.d__law_no_table
  exact fnE_of fx.m__law_no_table F.kp (mk_ok (k := 44) (N := N__law_no_table) (ps := P__law_no_table) F sc__law_no_table fun B W cdv A outer st H E hr tk hx =>
  (s_cons (s_set 2 sc__law_no_table.nd p_bl)
  (s_cons (s_try rfl rfl ⟨rfl, rfl, .inl fx.c_NoTable⟩ tk fx.h_NoTable (fun W pn xe tk hx =>
   (s_one (s_expr (p_call (ok_order_of fx de) (hr.mono (by omega)) tk (a_cons (p_v 0) (a_cons (p_v 1) a_nil))))))
   (fun ad oe pn =>
   (s_one (s_set 2 sc__law_no_table.nd p_bl))))
  (s_one (s_ret (p_v 2)))))) (F.bindsN fun _ _ _ _ _ _ us hl => match us, hl with | [_, _], _ => rfl)
abbrev st__law_order : Stmt := (top 55)
abbrev N__law_order : List Str := ["asked", "k", "told", "j"]
abbrev P__law_order : List Str := ["asked", "k", "told"]
theorem sc__law_order : FnScope N__law_order P__law_order (defScope st__law_order) := ⟨rfl, rfl, rfl, by decide +kernel, rfl, by decide +kernel, by decide +kernel⟩
theorem ok__law_order {P : Program} {w : World} {K : PySem.W.Frag} {mg : Str → Option Value} {base : Heap} (fx : Fx K mg) (de : De K) (n : Nat) : FnE P w K mg base (SG K) (1 + n) "_law_order" 3 (f__law_order n) := by
  obtain ⟨fd, F⟩ := de.d__law_order
  induction n with
  | zero => exact fnE_of fx.m__law_order F.kp (mk_ok (k := 0) (N := N__law_order) (ps := P__law_order) F sc__law_order fun B W cdv A outer st H E hr tk hx => s_bad) (F.bindsN fun _ _ _ _ _ _ us hl => match us, hl with | [_, _, _], _ => rfl)
  | succ n ih => exact fnE_of fx.m__law_order F.kp (mk_ok (k := 1 + n) (N := N__law_order) (ps := P__law_order) F sc__law_order fun B W cdv A outer st H E hr tk hx =>
  (s_cons (s_if (t_in (u1 hr) (p_ob 1) (p_ob 2))
   (s_one (s_ret (p_v 2)))
   s_nil)
  (s_cons (s_for hx rfl (j_seq (p_subs (u1 hr) (p_o 0) (p_v 1))) (g_nm 3 sc__law_order.nd)
   (s_one (s_set 2 sc__law_order.nd (p_call ih (hr.mono (by omega)) tk (a_cons (p_v 0) (a_cons (p_v 3) (a_cons (p_v 2) a_nil)))))))
  (s_one (s_ret (p_add (p_v 2) (p_lst (a_cons (p_v 1) a_nil)))))))) (F.bindsN fun _ _ _ _ _ _ us hl => match us, hl with | [_, _, _], _ => rfl)
abbrev st_alike : Stmt := (top 20)
abbrev N_alike : List Str := ["one", "other"]
abbrev P_alike : List Str := ["one", "other"]
theorem sc_alike : FnScope N_alike P_alike (defScope st_alike) := ⟨rfl, rfl, rfl, by decide +kernel, rfl, by decide +kernel, by decide +kernel⟩
theorem ok_alike {P : Program} {w : World} {K : PySem.W.Frag} {mg : Str → Option Value} {base : Heap} (fx : Fx K mg) (de : De K) : FnE P w K mg base (SG K) 1 "alike" 2 f_alike := by
  obtain ⟨fd, F⟩ := de.d_alike
  exact fnE_of fx.m_alike F.kp (mk_ok (k := 0) (N := N_alike) (ps := P_alike) F sc_alike fun B W cdv A outer st H E hr tk hx =>
  (s_cons (s_if (t_v (p_isi (.own _) fx.i_Words (p_ob 0) (pe_glob rfl fx.c_Words rfl) fx.n_isinstance))
   (s_one (s_ret (v_and (p_isi (.own _) fx.i_Words (p_ob 1) (pe_glob rfl fx.c_Words rfl) fx.n_isinstance) (v_one (p_eq hr.units (p_bor (p_fld fx.f_words (p_v 0))) (p_bor (p_fld fx.f_words (p_v 1))))))))
   s_nil)
  (s_one (s_ret (v_and (p_isi (.own _) fx.i_Numbers (p_ob 1) (pe_glob rfl fx.c_Numbers rfl) fx.n_isinstance) (v_and (p_eq hr.units (p_bor (p_fld fx.f_low (p_v 0))) (p_bor (p_fld fx.f_low (p_v 1)))) (v_one (p_eq hr.units (p_bor (p_fld fx.f_high (p_v 0))) (p_bor (p_fld fx.f_high (p_v 1))))))))))) (F.bindsN fun _ _ _ _ _ _ us hl => match us, hl with | [_, _], _ => rfl)
abbrev st_look_at_columns : Stmt := (top 25)
abbrev N_look_at_columns : List Str := ["tables", "domains", "table", "name", "domain"]
abbrev P_look_at_columns : List Str := ["tables", "domains"]
theorem sc_look_at_columns : FnScope N_look_at_columns P_look_at_columns (defScope st_look_at_columns) := ⟨rfl, rfl, rfl, by decide +kernel, rfl, by decide +kernel, by decide +kernel⟩
theorem ok_look_at_columns {P : Program} {w : World} {K : PySem.W.Frag} {mg : Str → Option Value} {base : Heap} (fx : Fx K mg) (de : De K) : FnE P w K mg base (SG K) 2 "look_at_columns" 2 f_look_at_columns := by
  obtain ⟨fd, F⟩ := de.d_look_at_columns
  exact fnE_of fx.m_look_at_columns F.kp (mk_ok (k := 1) (N := N_look_at_columns) (ps := P_look_at_columns) F sc_look_at_columns fun B W cdv A outer st H E hr tk hx =>
  (s_cons (s_for hx rfl (j_seq (p_v 0)) (g_nm 2 sc_look_at_columns.nd)
   (s_one (s_for hx rfl (j_seq (p_fld fx.f_names (p_v 2))) (g_nm 3 sc_look_at_columns.nd)
    (s_one (s_if (t_notIn (u1 hr) (p_ob 3) (p_ob 1))
     (s_one (s_raise fx.e_BadName rfl tk))
     s_nil)))))
  (s_one (s_for hx rfl (j_seq (p_v 0)) (g_nm 2 sc_look_at_columns.nd)
   (s_one (s_for hx rfl (j_zip (p_fld fx.f_names (p_v 2)) (p_fld fx.f_domains (p_v 2)) fx.n_zip) (g_tp rfl (g_cons 3 sc_look_at_columns.nd (g_cons 4 sc_look_at_columns.nd g_nil)))
    (s_one (s_if (t_not (t_v (p_call (ok_alike fx de) (hr.mono (by omega)) tk (a_cons (p_v 4) (a_cons (p_subs (u1 hr) (p_o 1) (p_v 3)) a_nil)))))
     (s_one (s_raise fx.e_Unlike rfl tk))
     s_nil)))))))) (F.bindsN fun _ _ _ _ _ _ us hl => match us, hl with | [_, _], _ => rfl)
abbrev st_free_of : Stmt := (top 26)
abbrev N_free_of : List Str := ["table", "names", "settled", "name"]
abbrev P_free_of : List Str := ["table", "names", "settled"]
theorem sc_free_of : FnScope N_free_of P_free_of (defScope st_free_of) := ⟨rfl, rfl, rfl, by decide +kernel, rfl, by decide +kernel, by decide +kernel⟩
theorem ok_free_of {P : Program} {w : World} {K : PySem.W.Frag} {mg : Str → Option Value} {base : Heap} (fx : Fx K mg) (de : De K) : FnE P w K mg base (SG K) 1 "free_of" 3 f_free_of := by
  obtain ⟨fd, F⟩ := de.d_free_of
  exact fnE_of fx.m_free_of F.kp (mk_ok (k := 0) (N := N_free_of) (ps := P_free_of) F sc_free_of fun B W cdv A outer st H E hr tk hx =>
  (s_cons (s_for hx rfl (j_seq (p_fld fx.f_names (p_v 0))) (g_nm 3 sc_free_of.nd)
   (s_one (s_if (t_w (t_and (t_in (u1 hr) (p_ob 3) (p_ob 1)) (t_and1 (t_notIn (u1 hr) (p_ob 3) (p_ob 2)))))
    (s_one (s_ret p_bl))
    s_nil)))
  (s_one (s_ret p_bl)))) (F.bindsN fun _ _ _ _ _ _ us hl => match us, hl with | [_, _, _], _ => rfl)
abbrev st_look_for_rings : Stmt := (top 27)
abbrev N_look_for_rings : List Str := ["tables", "names", "settled", "again", "table"]
abbrev P_look_for_rings : List Str := ["tables"]
theorem sc_look_for_rings : FnScope N_look_for_rings P_look_for_rings (defScope st_look_for_rings) := ⟨rfl, rfl, rfl, by decide +kernel, rfl, by decide +kernel, by decide +kernel⟩
theorem ok_look_for_rings {P : Program} {w : World} {K : PySem.W.Frag} {mg : Str → Option Value} {base : Heap} (fx : Fx K mg) (de : De K) : FnE P w K mg base (SG K) 2 "look_for_rings" 1 f_look_for_rings := by
  obtain ⟨fd, F⟩ := de.d_look_for_rings
  exact fnE_of fx.m_look_for_rings F.kp (mk_ok (k := 1) (N := N_look_for_rings) (ps := P_look_for_rings) F sc_look_for_rings fun B W cdv A outer st H E hr tk hx =>
  (s_cons (s_setLc 1 rfl sc_look_for_rings.nd (j_seq (p_v 0)) (blkOk_by (own := [("table", 4)]) (by rfl)) (by decide) ⟨_, tg_nm 4, fun _ _ _ _ _ => pg_name sc_look_for_rings.nd rfl (by first | exact Or.inl rfl | exact Or.inr rfl) (by first | exact .inl rfl | exact .inr rfl)⟩ (fun _ _ _ _ _ => f_nil) (fun _ _ _ _ _ => (p_fld fx.f_name (p_v 4))))
  (s_cons (s_own 2 sc_look_for_rings.nd a_nil)
  (s_cons (s_set 3 sc_look_for_rings.nd p_bl)
  (s_cons (s_while 100000 hx (t_v (p_v 3))
   (s_cons (s_set 3 sc_look_for_rings.nd p_bl)
   (s_one (s_for hx rfl (j_seq (p_v 0)) (g_nm 4 sc_look_for_rings.nd)
    (s_one (s_if (t_w (t_and (t_notIn (u1 hr) (p_bor (p_fld fx.f_name (p_v 4))) (p_ob 2)) (t_and1 (t_v (p_look (ok_free_of fx de) (hr.mono (by omega)) tk (b_cons (p_ob 4) (b_cons (p_ob 1) (b_cons (p_ob 2) b_nil))))))))
     (s_cons (s_app 2 (p_fld fx.f_name (p_v 4)))
     (s_one (s_set 3 sc_look_for_rings.nd p_bl)))
     s_nil))))))
  (s_one (s_if (t_lt (p_len (p_ob 2) fx.n_len) (p_len (p_ob 0) fx.n_len))
   (s_one (s_raise fx.e_Ring rfl tk))
   s_nil))))))) (F.bindsN fun _ _ _ _ _ _ us hl => match us, hl with | [_], _ => rfl)
abbrev st_named_domains : Stmt := (top 24)
abbrev N_named_domains : List Str := ["facts", "tables", "told", "name", "domain", "table"]
abbrev P_named_domains : List Str := ["facts", "tables"]
theorem sc_named_domains : FnScope N_named_domains P_named_domains (defScope st_named_domains) := ⟨rfl, rfl, rfl, by decide +kernel, rfl, by decide +kernel, by decide +kernel⟩
theorem ok_named_domains {P : Program} {w : World} {K : PySem.W.Frag} {mg : Str → Option Value} {base : Heap} (fx : Fx K mg) (de : De K) : FnE P w K mg base (SG K) 2 "named_domains" 2 f_named_domains := by
  obtain ⟨fd, F⟩ := de.d_named_domains
  exact fnE_of fx.m_named_domains F.kp (mk_ok (k := 1) (N := N_named_domains) (ps := P_named_domains) F sc_named_domains fun B W cdv A outer st H E hr tk hx =>
  (s_cons (s_ownDct 2 sc_named_domains.nd)
  (s_cons (s_for hx rfl (j_seq (p_v 0)) (g_tp rfl (g_cons 3 sc_named_domains.nd (g_cons 4 sc_named_domains.nd g_nil)))
   (s_cons (s_if (t_w (t_or (t_not (t_v (p_call (ok_is_word fx de) (hr.mono (by omega)) tk (a_cons (p_v 3) a_nil)))) (t_or1 (t_in (u1 hr) (p_ob 3) (p_ob 2)))))
    (s_one (s_raise fx.e_BadName rfl tk))
    s_nil)
   (s_one (s_put 2 (u1 hr) (p_v 3) (p_v 4)))))
  (s_cons (s_for hx rfl (j_seq (p_v 1)) (g_nm 5 sc_named_domains.nd)
   (s_cons (s_if (t_in (u1 hr) (p_bor (p_fld fx.f_name (p_v 5))) (p_ob 2))
    (s_one (s_raise fx.e_BadName rfl tk))
    s_nil)
   (s_one (s_put 2 (u1 hr) (p_fld fx.f_name (p_v 5)) (p_fld fx.f_outcome (p_v 5))))))
  (s_one (s_frz [2] (s_ret (p_v 2)))))))) (F.bindsN fun _ _ _ _ _ _ us hl => match us, hl with | [_, _], _ => rfl)
abbrev st_Book___init__ : Stmt := (inClass (top 28) 0)
abbrev N_Book___init__ : List Str := ["self", "facts", "tables"]
abbrev P_Book___init__ : List Str := ["self", "facts", "tables"]
theorem sc_Book___init__ : FnScope N_Book___init__ P_Book___init__ (defScope st_Book___init__) := ⟨rfl, rfl, rfl, by decide +kernel, rfl, by decide +kernel, by decide +kernel⟩
theorem oki_Book {P : Program} {w : World} {K : PySem.W.Frag} {mg : Str → Option Value} {base : Heap} (fx : Fx K mg) (de : De K) {f : Addr} {fd : FuncData} (F : FunD K "__init__" "Book.__init__" (defArgs st_Book___init__) (defBody st_Book___init__) (defScope st_Book___init__) [] [] f fd) : InitE P w K mg base (SG K) 3 f 2 i_Book :=
  mk_init (k := 2) (N := N_Book___init__) (ps := P_Book___init__.tail) F sc_Book___init__ (F.bindsN fun _ _ _ _ _ _ us hl => match us, hl with | [_, _, _], _ => rfl) fun B W cdv A outer st H E hr tk hx =>
  (s_cons (s_if (t_w (t_or (t_gt (p_len (p_ob 1) fx.n_len) (p_glob fx.g_MOST_FACTS)) (t_or1 (t_gt (p_len (p_ob 2) fx.n_len) (p_glob fx.g_MOST_TABLES)))))
   (s_one (s_raise fx.e_TooMany rfl tk))
   s_nil)
  (s_cons (s_expr (p_call (ok_look_at_columns fx de) (hr.mono (by omega)) tk (a_cons (p_v 2) (a_cons (p_call (ok_named_domains fx de) (hr.mono (by omega)) tk (a_cons (p_v 1) (a_cons (p_v 2) a_nil))) a_nil))))
  (s_cons (s_expr (p_call (ok_look_for_rings fx de) (hr.mono (by omega)) tk (a_cons (p_v 2) a_nil)))
  (s_cons (s_fld 0 fx.s_facts (p_list (p_o 1) fx.n_list))
  (s_one (s_fld 0 fx.s_tables (p_list (p_o 2) fx.n_list)))))))
theorem mk_Book {P : Program} {w : World} {K : PySem.W.Frag} {mg : Str → Option Value} {base : Heap} (fx : Fx K mg) (de : De K) : MkE P w K mg base (SG K) 3 "Book" 24 2 i_Book := by
  obtain ⟨fd, F⟩ := de.d_Book___init__
  exact ⟨_, fx.c_Book, fx.mk_Book, oki_Book fx de F⟩
theorem okn_gathered {P : Program} {w : World} {K : PySem.W.Frag} {mg : Str → Option Value} {base : Heap} (fx : Fx K mg) (de : De K) : FnN P w K mg base (SG K) 44 "gathered" 3 n_gathered := by
  obtain ⟨fd, F⟩ := de.d_gathered
  exact fnN_of fx.m_gathered F.kp (mk_okN (k := 43) (N := N_gathered) (ps := P_gathered) F sc_gathered fun B W cdv A outer st H E hr tk hx =>
  (s_cons (s_if (t_in (u1 hr) (p_ob 1) (p_ob 2))
   (s_one (s_ret (p_v 2)))
   s_nil)
  (s_cons (s_for hx rfl (j_seq (p_call (ok_asks fx de) (hr.mono (by omega)) tk (a_cons (p_v 0) (a_cons (p_v 1) a_nil)))) (g_nm 3 sc_gathered.nd)
   (s_one (s_set 2 sc_gathered.nd (p_call (ok_gathered fx de 40) (hr.mono (by omega)) tk (a_cons (p_v 0) (a_cons (p_v 3) (a_cons (p_v 2) a_nil)))))))
  (s_one (s_retNew (n_add (p_v 2) (p_lst (a_cons (p_v 1) a_nil)))))))) (F.bindsN fun _ _ _ _ _ _ us hl => match us, hl with | [_, _, _], _ => rfl)
theorem okn_order_of {P : Program} {w : World} {K : PySem.W.Frag} {mg : Str → Option Value} {base : Heap} (fx : Fx K mg) (de : De K) : FnN P w K mg base (SG K) 45 "order_of" 2 n_order_of := by
  obtain ⟨fd, F⟩ := de.d_order_of
  exact fnN_of fx.m_order_of F.kp (mk_okN (k := 44) (N := N_order_of) (ps := P_order_of) F sc_order_of fun B W cdv A outer st H E hr tk hx =>
  (s_one (s_retNew (n_call (okn_gathered fx de) (hr.mono (by omega)) tk (a_cons (p_v 0) (a_cons (p_v 1) (a_cons (p_lst a_nil) a_nil))))))) (F.bindsN fun _ _ _ _ _ _ us hl => match us, hl with | [_, _], _ => rfl)
abbrev st_law : Stmt := (top 57)
abbrev N_law : List Str := ["script", "most", "turn", "numbers", "names", "asked", "facts", "made", "k", "heads", "fact", "book", "due", "found", "j"]
abbrev P_law : List Str := ["script"]
theorem sc_law : FnScope N_law P_law (defScope st_law) := ⟨rfl, rfl, rfl, by decide +kernel, rfl, by decide +kernel, by decide +kernel⟩
theorem ok_law {P : Program} {w : World} {K : PySem.W.Frag} {mg : Str → Option Value} {base : Heap} (fx : Fx K mg) (de : De K) (hs : ∀ ns : List Int, ns.length ≤ 63 → f_law [.scr ns] = .ok (.bl true)) {f : Addr} {fd : FuncData} (F : FunD K "law" "law" (defArgs st_law) (defBody st_law) (defScope st_law) [] [] f fd) : FnOk P w K mg base CX0 46 f fd ["script"] (spLaw K) :=
  mk_law (S := SG K) (k := 45) (N := N_law) (y := "script") F sc_law rfl (fun B cdv A outer st H E hr hx =>
  (s_cons (s_set 1 sc_law.nd (p_add p_int (p_mod (p_call (ok__law_at fx de) (hr.mono (by omega)) takesW0 (a_cons (p_v 0) (a_cons p_int a_nil))) p_int)))
  (s_cons (s_set 2 sc_law.nd (p_mod (p_div (p_call (ok__law_at fx de) (hr.mono (by omega)) takesW0 (a_cons (p_v 0) (a_cons p_int a_nil))) p_int) (p_v 1)))
  (s_cons (s_set 3 sc_law.nd (p_call (ok__law_folded fx de) (hr.mono (by omega)) takesW0 (a_cons (p_v 0) (a_cons (p_v 1) a_nil))))
  (s_cons (s_set 4 sc_law.nd (p_call (ok__law_names fx de) (hr.mono (by omega)) takesW0 (a_cons (p_v 1) a_nil)))
  (s_cons (s_setLc 5 rfl sc_law.nd (j_rng1 (p_v 1) fx.n_range) (blkOk_by (own := [("k", 8)]) (by rfl)) (by decide) ⟨_, tg_nm 8, fun _ _ _ _ _ => pg_name sc_law.nd rfl (by first | exact Or.inl rfl | exact Or.inr rfl) (by first | exact .inl rfl | exact .inr rfl)⟩ (fun _ _ _ _ _ => f_nil) (fun _ _ _ _ _ => (p_call (ok__law_asked fx de) (hr.mono (by omega)) takesW0 (a_cons (p_subs (u1 hr) (p_o 3) (p_v 8)) (a_cons (p_v 8) (a_cons (p_v 1) (a_cons p_int a_nil)))))))
  (s_cons (s_set 6 sc_law.nd (p_sl (p_si (p_lst (a_cons p_str (a_cons p_str (a_cons p_str (a_cons p_str a_nil)))))) p_none (p_some (p_add p_int (p_mod (p_div (p_call (ok__law_at fx de) (hr.mono (by omega)) takesW0 (a_cons (p_v 0) (a_cons p_int a_nil))) p_int) p_int)))))
  (s_cons (s_own 7 sc_law.nd a_nil)
  (s_cons (s_for hx rfl (j_rng1 (p_v 1) fx.n_range) (g_nm 8 sc_law.nd)
   (s_cons (s_setLc 9 rfl sc_law.nd (j_seq (p_subs (u1 hr) (p_o 5) (p_v 8))) (blkOk_by (own := [("j", 14)]) (by rfl)) (by decide) ⟨_, tg_nm 14, fun _ _ _ _ _ => pg_name sc_law.nd rfl (by first | exact Or.inl rfl | exact Or.inr rfl) (by first | exact .inl rfl | exact .inr rfl)⟩ (fun _ _ _ _ _ => f_nil) (fun _ _ _ _ _ => (p_subs (u1 hr) (p_o 4) (p_v 14))))
   (s_cons (s_set 10 sc_law.nd (p_subs (u1 hr) (p_o 6) (p_mod (p_div (p_subs (u1 hr) (p_o 3) (p_v 8)) p_int) (p_len (p_ob 6) fx.n_len))))
   (s_cons (s_if (t_w (t_or (t_eq hr.units (p_bor (p_mod (p_div (p_subs (u1 hr) (p_o 3) (p_v 8)) p_int) p_int)) (p_bor p_int)) (t_or1 (t_eq hr.units (p_bor (p_len (p_ob 9) fx.n_len)) (p_bor p_int)))))
    (s_one (s_set 9 sc_law.nd (p_add (p_lst (a_cons (p_v 10) a_nil)) (p_v 9))))
    (s_one (s_if (t_eq hr.units (p_bor (p_mod (p_div (p_subs (u1 hr) (p_o 3) (p_v 8)) p_int) p_int)) (p_bor p_int))
     (s_one (s_set 9 sc_law.nd (p_add (p_v 9) (p_lst (a_cons (p_v 10) a_nil)))))
     s_nil)))
   (s_one (s_app 7 (p_call (ok__law_net_table fx de) (hr.mono (by omega)) takesW0 (a_cons (p_subs (u1 hr) (p_o 4) (p_v 8)) (a_cons (p_v 9) (a_cons p_int a_nil))))))))))
  (s_cons (s_set 11 sc_law.nd (p_make (mk_Book fx de) rfl (hr.mono (by omega)) takesW0 (a_cons (p_lc (β := true) (tt := sT (SG K) B W0 yesT) rfl sc_law.nd (j_seq (p_v 6)) (blkOk_by (own := [("fact", 10)]) (by rfl)) (by decide) ⟨_, tg_nm 10, fun _ _ _ _ _ => pg_name sc_law.nd rfl (by first | exact Or.inl rfl | exact Or.inr rfl) (by first | exact .inl rfl | exact .inr rfl)⟩ (fun _ _ _ _ _ => f_nil) (fun _ _ _ _ _ => (p_tup (a_cons (p_v 10) (a_cons (p_make (mk_Numbers fx de) rfl (hr.mono (by omega)) takesW0 (a_cons p_int (a_cons p_int a_nil))) a_nil))))) (a_cons (p_add (p_sl (p_o 7) (p_some (p_v 2)) p_none) (p_sl (p_o 7) p_none (p_some (p_v 2)))) a_nil))))
  (s_cons (s_for hx rfl (j_rng1 (p_v 1) fx.n_range) (g_nm 8 sc_law.nd)
   (s_cons (s_setLc 12 rfl sc_law.nd (j_seq (p_call (ok__law_order fx de 40) (hr.mono (by omega)) takesW0 (a_cons (p_v 5) (a_cons (p_v 8) (a_cons (p_lst a_nil) a_nil))))) (blkOk_by (own := [("j", 14)]) (by rfl)) (by decide) ⟨_, tg_nm 14, fun _ _ _ _ _ => pg_name sc_law.nd rfl (by first | exact Or.inl rfl | exact Or.inr rfl) (by first | exact .inl rfl | exact .inr rfl)⟩ (fun _ _ _ _ _ => f_nil) (fun _ _ _ _ _ => (p_subs (u1 hr) (p_o 4) (p_v 14))))
   (s_cons (s_ownN 13 sc_law.nd (n_call (okn_order_of fx de) (hr.mono (by omega)) takesW0 (a_cons (p_v 11) (a_cons (p_subs (u1 hr) (p_o 4) (p_v 8)) a_nil))))
   (s_cons (s_if (t_w (t_or (t_not (t_v (p_isi (.ty "list") fx.i_list (p_ob 13) (pe_bltn rfl fx.n_list rfl rfl) fx.n_isinstance))) (t_or1 (t_ne hr.units (p_ob 13) (p_ob 12)))))
    (s_one (s_ret p_bl))
    s_nil)
   (s_cons (s_rev 13)
   (s_cons (s_app 13 p_str)
   (s_one (s_if (t_ne hr.units (p_bor (p_call (ok_order_of fx de) (hr.mono (by omega)) takesW0 (a_cons (p_v 11) (a_cons (p_subs (u1 hr) (p_o 4) (p_v 8)) a_nil)))) (p_ob 12))
    (s_one (s_ret p_bl))
    s_nil))))))))
  (s_one (s_ret (v_and (p_call (ok__law_no_table fx de) (hr.mono (by omega)) takesW0 (a_cons (p_v 11) (a_cons (p_subs (u1 hr) (p_o 6) p_int) a_nil))) (v_one (p_call (ok__law_no_table fx de) (hr.mono (by omega)) takesW0 (a_cons (p_v 11) (a_cons (p_add (p_subs (u1 hr) (p_o 4) p_int) p_str) a_nil)))))))))))))))))) hs
end Vi

set_option maxHeartbeats 0
namespace Vi
open PySem PySem.Spec PyProof.Rows L2
def hDefs : List He.DefD := [
  ⟨("_law_asked", none), "_law_asked", "_law_asked", defArgs (top 52), defBody (top 52), defScope (top 52), [], []⟩,
  ⟨("_law_at", none), "_law_at", "_law_at", defArgs (top 50), defBody (top 50), defScope (top 50), [], []⟩,
  ⟨("_law_folded", none), "_law_folded", "_law_folded", defArgs (top 51), defBody (top 51), defScope (top 51), [], []⟩,
  ⟨("_law_names", none), "_law_names", "_law_names", defArgs (top 53), defBody (top 53), defScope (top 53), [], []⟩,
  ⟨("Domain", some "__init__"), "__init__", "Domain.__init__", defArgs (inClass (top 17) 0), defBody (inClass (top 17) 0), defScope (inClass (top 17) 0), [], []⟩,
  ⟨("Numbers", some "__init__"), "__init__", "Numbers.__init__", defArgs (inClass (top 18) 0), defBody (inClass (top 18) 0), defScope (inClass (top 18) 0), [], []⟩,
  ⟨("is_word", none), "is_word", "is_word", defArgs (top 16), defBody (top 16), defScope (top 16), [], []⟩,
  ⟨("look_at_names", none), "look_at_names", "look_at_names", defArgs (top 45), defBody (top 45), defScope (top 45), [], []⟩,
  ⟨("look_at_row", none), "look_at_row", "look_at_row", defArgs (top 46), defBody (top 46), defScope (top 46), [], []⟩,
  ⟨("own_rows", none), "own_rows", "own_rows", defArgs (top 47), defBody (top 47), defScope (top 47), [], []⟩,
  ⟨("Way", some "__init__"), "__init__", "Way.__init__", defArgs (inClass (top 34) 0), defBody (inClass (top 34) 0), defScope (inClass (top 34) 0), [], []⟩,
  ⟨("First", some "__init__"), "__init__", "First.__init__", defArgs (inClass (top 35) 0), defBody (inClass (top 35) 0), defScope (inClass (top 35) 0), [], []⟩,
  ⟨("High", some "__init__"), "__init__", "High.__init__", defArgs (inClass (top 39) 0), defBody (inClass (top 39) 0), defScope (inClass (top 39) 0), [], []⟩,
  ⟨("Like", some "__init__"), "__init__", "Like.__init__", defArgs (inClass (top 37) 0), defBody (inClass (top 37) 0), defScope (inClass (top 37) 0), [], []⟩,
  ⟨("Low", some "__init__"), "__init__", "Low.__init__", defArgs (inClass (top 38) 0), defBody (inClass (top 38) 0), defScope (inClass (top 38) 0), [], []⟩,
  ⟨("Only", some "__init__"), "__init__", "Only.__init__", defArgs (inClass (top 36) 0), defBody (inClass (top 36) 0), defScope (inClass (top 36) 0), [], []⟩,
  ⟨("Sum", some "__init__"), "__init__", "Sum.__init__", defArgs (inClass (top 40) 0), defBody (inClass (top 40) 0), defScope (inClass (top 40) 0), [], []⟩,
  ⟨("way_by", none), "way_by", "way_by", defArgs (top 41), defBody (top 41), defScope (top 41), [], []⟩,
  ⟨("Table", some "__init__"), "__init__", "Table.__init__", defArgs (inClass (top 48) 0), defBody (inClass (top 48) 0), defScope (inClass (top 48) 0), [], []⟩,
  ⟨("_law_net_table", none), "_law_net_table", "_law_net_table", defArgs (top 54), defBody (top 54), defScope (top 54), [], []⟩,
  ⟨("table_of", none), "table_of", "table_of", defArgs (top 29), defBody (top 29), defScope (top 29), [], []⟩,
  ⟨("asks", none), "asks", "asks", defArgs (top 30), defBody (top 30), defScope (top 30), [], []⟩,
  ⟨("gathered", none), "gathered", "gathered", defArgs (top 31), defBody (top 31), defScope (top 31), [], []⟩,
  ⟨("order_of", none), "order_of", "order_of", defArgs (top 32), defBody (top 32), defScope (top 32), [], []⟩,
  ⟨("_law_no_table", none), "_law_no_table", "_law_no_table", defArgs (top 56), defBody (top 56), defScope (top 56), [], []⟩,
  ⟨("_law_order", none), "_law_order", "_law_order", defArgs (top 55), defBody (top 55), defScope (top 55), [], []⟩,
  ⟨("alike", none), "alike", "alike", defArgs (top 20), defBody (top 20), defScope (top 20), [], []⟩,
  ⟨("look_at_columns", none), "look_at_columns", "look_at_columns", defArgs (top 25), defBody (top 25), defScope (top 25), [], []⟩,
  ⟨("free_of", none), "free_of", "free_of", defArgs (top 26), defBody (top 26), defScope (top 26), [], []⟩,
  ⟨("look_for_rings", none), "look_for_rings", "look_for_rings", defArgs (top 27), defBody (top 27), defScope (top 27), [], []⟩,
  ⟨("named_domains", none), "named_domains", "named_domains", defArgs (top 24), defBody (top 24), defScope (top 24), [], []⟩,
  ⟨("Book", some "__init__"), "__init__", "Book.__init__", defArgs (inClass (top 28) 0), defBody (inClass (top 28) 0), defScope (inClass (top 28) 0), [], []⟩,
  ⟨("law", none), "law", "law", defArgs (top 57), defBody (top 57), defScope (top 57), [], []⟩]
def hFacts : List He.Fa := [.free "range",
  .free "len",
  .free "list",
  .free "isinstance",
  .exc "BadDomain",
  .glo "BadDomain",
  .cls "Numbers",
  .noat "Numbers" "low",
  .cls "Words",
  .noat "Words" "low",
  .noat "Numbers" "high",
  .noat "Words" "high",
  .int "MOST_COLUMNS" 4,
  .int "MOST_ROWS" 200,
  .exc "TooMany",
  .glo "TooMany",
  .glo "Words",
  .exc "BadWay",
  .glo "BadWay",
  .cls "Table",
  .noat "Table" "name",
  .noat "Table" "names",
  .noat "Table" "domains",
  .noat "Table" "outcome",
  .noat "Table" "way",
  .noat "Table" "rows",
  .exc "BadName",
  .glo "BadName",
  .int "MOST_SIGNS" 12,
  .str "LETTERS" "abcdefghijklmnopqrstuvwxyz",
  .free "all",
  .exc "BadRow",
  .glo "BadRow",
  .free "zip",
  .cls "First",
  .noat "First" "called",
  .cls "Only",
  .noat "Only" "called",
  .cls "Like",
  .noat "Like" "called",
  .cls "Low",
  .noat "Low" "called",
  .cls "High",
  .noat "High" "called",
  .cls "Sum",
  .noat "Sum" "called",
  .glo "NoTable",
  .exm "TableError" "NoTable" false,
  .exm "BadName" "NoTable" false,
  .exm "BadDomain" "NoTable" false,
  .exm "BadWay" "NoTable" false,
  .exm "BadRow" "NoTable" false,
  .exm "TooMany" "NoTable" false,
  .exm "Outside" "NoTable" false,
  .exm "Unlike" "NoTable" false,
  .exm "NoTable" "NoTable" true,
  .exm "Ring" "NoTable" false,
  .cls "Book",
  .noat "Book" "tables",
  .exc "NoTable",
  .int "MOST_FACTS" 20,
  .int "MOST_TABLES" 30,
  .noat "Book" "facts",
  .exc "Unlike",
  .glo "Unlike",
  .noat "Words" "words",
  .glo "Numbers",
  .exc "Ring",
  .glo "Ring",
  .glo "_law_asked",
  .glo "_law_at",
  .glo "_law_folded",
  .glo "_law_names",
  .glo "Domain",
  .mkr "Numbers",
  .glo "is_word",
  .glo "look_at_names",
  .glo "look_at_row",
  .glo "own_rows",
  .glo "Way",
  .glo "First",
  .mkr "First",
  .glo "High",
  .mkr "High",
  .glo "Like",
  .mkr "Like",
  .glo "Low",
  .mkr "Low",
  .glo "Only",
  .mkr "Only",
  .glo "Sum",
  .mkr "Sum",
  .glo "way_by",
  .glo "Table",
  .mkr "Table",
  .glo "_law_net_table",
  .glo "table_of",
  .glo "asks",
  .glo "gathered",
  .glo "order_of",
  .glo "_law_no_table",
  .glo "_law_order",
  .glo "alike",
  .glo "look_at_columns",
  .glo "free_of",
  .glo "look_for_rings",
  .glo "named_domains",
  .glo "Book",
  .mkr "Book",
  .glo "law"]
def hEx : List (PySem.W.Frag → Bool) := [fun K => decide (PySem.W.kitOne K (.type "NoneType") (.type "list") = some false),
  fun K => decide (PySem.W.kitOne K (.type "bool") (.type "list") = some false),
  fun K => decide (PySem.W.kitOne K (.type "int") (.type "list") = some false),
  fun K => decide (PySem.W.kitOne K (.type "str") (.type "list") = some false),
  fun K => decide (PySem.W.kitOne K (.type "list") (.type "list") = some true),
  fun K => decide (PySem.W.kitOne K (.type "tuple") (.type "list") = some false),
  fun K => decide (PySem.W.kitOne K (.type "dict") (.type "list") = some false),
  fun K => decide (PySem.W.kitOne K (.ref (He.ga K "Numbers")) (.ref (He.ga K "Words")) = some false),
  fun K => decide (PySem.W.kitOne K (.ref (He.ga K "Words")) (.ref (He.ga K "Words")) = some true),
  fun K => decide (PySem.W.findIn K (.ref (He.ga K "Numbers")) "__class__" = some (some (.builtin "object.__class__"))),
  fun K => decide (PySem.W.specialIn K (.builtin "object.__class__") "__get__" = some (some (.builtin "getset_descriptor.__get__"))),
  fun K => decide (PySem.W.takesIn K (.builtin "object.__class__") = some true),
  fun K => decide (PySem.W.mroIn K (He.ga K "Numbers") (.type "object") = some true),
  fun K => decide (PySem.W.findIn K (.ref (He.ga K "Words")) "__class__" = some (some (.builtin "object.__class__"))),
  fun K => decide (PySem.W.mroIn K (He.ga K "Words") (.type "object") = some true),
  fun K => decide (PySem.W.kitOne K (.ref (He.ga K "Numbers")) (.ref (He.ga K "Numbers")) = some true),
  fun K => decide (PySem.W.kitOne K (.ref (He.ga K "Words")) (.ref (He.ga K "Numbers")) = some false),
  fun K => decide (PySem.W.readsIn K (He.ga K "Domain") (.type "type") = true),
  fun K => decide (PySem.W.specialIn K (.ref (He.ga K "Domain")) "__getattribute__" = some (some (.builtin "type.__getattribute__"))),
  fun K => clsB K (He.ga K "Domain") "__init__" (He.fAd K ("Domain", some "__init__")),
  fun K => decide (PySem.W.readsIn K (He.ga K "Way") (.type "type") = true),
  fun K => decide (PySem.W.specialIn K (.ref (He.ga K "Way")) "__getattribute__" = some (some (.builtin "type.__getattribute__"))),
  fun K => clsB K (He.ga K "Way") "__init__" (He.fAd K ("Way", some "__init__"))]
def hMore (K : PySem.W.Frag) : Bool := hEx.all fun g => g K
def hLoose0 : List PySem.Str := ["_wall", "TableError", "BadName", "BadDomain", "BadWay", "BadRow", "TooMany", "Outside", "Unlike", "NoTable", "Ring", "LETTERS", "MOST_SIGNS", "MOST_WORDS", "is_word", "Domain", "Numbers", "Words", "alike", "MOST_FACTS", "MOST_TABLES", "named_domains", "look_at_columns", "free_of", "look_for_rings", "Book", "table_of", "asks", "gathered", "order_of"]
def hLoose1 : List PySem.Str := ["Way", "First", "Only", "Like", "Low", "High", "Sum", "way_by", "MOST_COLUMNS", "MOST_ROWS", "look_at_names", "look_at_row", "own_rows", "Table", "_law_at", "_law_folded", "_law_asked", "_law_names", "_law_net_table", "_law_order", "_law_no_table"]
def hLoose : List PySem.Str := hLoose0 ++ hLoose1
abbrev hR : PySem.W.OpenRow := PySem.W.OpenLaw.row PySem.Challenge.rw_rowjudge_k74_order_of
abbrev hk : PySem.W.Hook := hookV 5 hFacts hDefs hMore
def hob (s : PySem.W.SharedT) : AlV := obsV 5 hFacts hDefs hMore (HandSHeadRun.getT s)
theorem hob_eq (s : PySem.W.SharedT) : hob s = hk.obs s.abs := obsV_eq (HandSHeadRun.getT_eq s)
theorem hrun (w : World) : HandSHeadRun.RunEq hR (PySem.W.view hR.prog [57]) hk hob 40000 hLoose w := by
  intro os
  kernel_rfl
theorem hFx {K : PySem.W.Frag} {h : Heap} {mg : Str → Option Value} (X : K.In h) (G : h.Ns mainGlobals mg) (c : SaysV hFacts hDefs hMore K) : Fx K mg where
    n_range := He.free_ok X G (c.t.fact 0 rfl)
    n_len := He.free_ok X G (c.t.fact 1 rfl)
    n_list := He.free_ok X G (c.t.fact 2 rfl)
    i_list := ⟨by
      intro q hq
      simp only [List.mem_cons, List.not_mem_nil, or_false] at hq
      rcases hq with rfl | rfl | rfl | rfl | rfl | rfl | rfl
      · exact (of_decide_eq_true (all_at c.more 0))
      · exact (of_decide_eq_true (all_at c.more 1))
      · exact (of_decide_eq_true (all_at c.more 2))
      · exact (of_decide_eq_true (all_at c.more 3))
      · exact (of_decide_eq_true (all_at c.more 4))
      · exact (of_decide_eq_true (all_at c.more 5))
      · exact (of_decide_eq_true (all_at c.more 6)),
    by
      intro q hq
      simp only [List.mem_cons, List.not_mem_nil, or_false] at hq
      rcases hq with rfl | rfl | rfl | rfl | rfl | rfl | rfl
      · exact fun c h => absurd h (by omega)
      · exact fun c h => absurd h (by omega)
      · exact fun c h => absurd h (by omega)
      · exact fun c h => absurd h (by omega)
      · exact fun c h => absurd h (by omega)
      · exact fun c h => absurd h (by omega)
      · exact fun c h => absurd h (by omega)⟩
    n_isinstance := He.free_ok X G (c.t.fact 3 rfl)
    e_BadDomain := by
      obtain ⟨h1, h2, h3, h4⟩ := He.exc_ok (c.t.fact 4 rfl)
      exact ⟨He.glo_ok X G (c.t.fact 5 rfl), h1, h2, h3, h4⟩
    s_low := by
      intro q hq
      simp only [List.mem_cons, List.not_mem_nil, or_false] at hq
      rcases hq with rfl | rfl
      · exact ⟨⟨He.cls_ok (c.t.fact 6 rfl), He.noat_ok (c.t.fact 7 rfl), rfl, (show ("low" : Str) ∉ (flT 9).take 0 by decide)⟩, by decide⟩
      · exact ⟨⟨He.cls_ok (c.t.fact 8 rfl), He.noat_ok (c.t.fact 9 rfl), rfl, (show ("low" : Str) ∉ (flT 10).take 0 by decide)⟩, by decide⟩
    s_high := by
      intro q hq
      simp only [List.mem_cons, List.not_mem_nil, or_false] at hq
      rcases hq with rfl | rfl
      · exact ⟨⟨He.cls_ok (c.t.fact 6 rfl), He.noat_ok (c.t.fact 10 rfl), rfl, (show ("high" : Str) ∉ (flT 9).take 1 by decide)⟩, by decide⟩
      · exact ⟨⟨He.cls_ok (c.t.fact 8 rfl), He.noat_ok (c.t.fact 11 rfl), rfl, (show ("high" : Str) ∉ (flT 10).take 1 by decide)⟩, by decide⟩
    g_MOST_COLUMNS := by obtain ⟨t, h⟩ := He.int_ok X G (c.t.fact 12 rfl); exact ⟨_, h, t, rfl⟩
    g_MOST_ROWS := by obtain ⟨t, h⟩ := He.int_ok X G (c.t.fact 13 rfl); exact ⟨_, h, t, rfl⟩
    e_TooMany := by
      obtain ⟨h1, h2, h3, h4⟩ := He.exc_ok (c.t.fact 14 rfl)
      exact ⟨He.glo_ok X G (c.t.fact 15 rfl), h1, h2, h3, h4⟩
    c_Words := He.glo_ok X G (c.t.fact 16 rfl)
    i_Words := ⟨by
      intro q hq
      simp only [List.mem_cons, List.not_mem_nil, or_false] at hq
      rcases hq with rfl | rfl
      · exact (of_decide_eq_true (all_at c.more 7))
      · exact (of_decide_eq_true (all_at c.more 8)),
    by
      intro q hq
      simp only [List.mem_cons, List.not_mem_nil, or_false] at hq
      rcases hq with rfl | rfl
      · exact fun c h => by
            obtain rfl : c = 9 := by omega
            exact ⟨He.cls_ok (c.t.fact 6 rfl), (of_decide_eq_true (all_at c.more 9)), (of_decide_eq_true (all_at c.more 10)), (of_decide_eq_true (all_at c.more 11)), (of_decide_eq_true (all_at c.more 12))⟩
      · exact fun c h => by
            obtain rfl : c = 10 := by omega
            exact ⟨He.cls_ok (c.t.fact 8 rfl), (of_decide_eq_true (all_at c.more 13)), (of_decide_eq_true (all_at c.more 10)), (of_decide_eq_true (all_at c.more 11)), (of_decide_eq_true (all_at c.more 14))⟩⟩
    e_BadWay := by
      obtain ⟨h1, h2, h3, h4⟩ := He.exc_ok (c.t.fact 17 rfl)
      exact ⟨He.glo_ok X G (c.t.fact 18 rfl), h1, h2, h3, h4⟩
    s_name := by
      intro q hq
      simp only [List.mem_cons, List.not_mem_nil, or_false] at hq
      rcases hq with rfl
      · exact ⟨⟨He.cls_ok (c.t.fact 19 rfl), He.noat_ok (c.t.fact 20 rfl), rfl, (show ("name" : Str) ∉ (flT 18).take 0 by decide)⟩, by decide⟩
    s_names := by
      intro q hq
      simp only [List.mem_cons, List.not_mem_nil, or_false] at hq
      rcases hq with rfl
      · exact ⟨⟨He.cls_ok (c.t.fact 19 rfl), He.noat_ok (c.t.fact 21 rfl), rfl, (show ("names" : Str) ∉ (flT 18).take 1 by decide)⟩, by decide⟩
    s_domains := by
      intro q hq
      simp only [List.mem_cons, List.not_mem_nil, or_false] at hq
      rcases hq with rfl
      · exact ⟨⟨He.cls_ok (c.t.fact 19 rfl), He.noat_ok (c.t.fact 22 rfl), rfl, (show ("domains" : Str) ∉ (flT 18).take 2 by decide)⟩, by decide⟩
    s_outcome := by
      intro q hq
      simp only [List.mem_cons, List.not_mem_nil, or_false] at hq
      rcases hq with rfl
      · exact ⟨⟨He.cls_ok (c.t.fact 19 rfl), He.noat_ok (c.t.fact 23 rfl), rfl, (show ("outcome" : Str) ∉ (flT 18).take 3 by decide)⟩, by decide⟩
    s_way := by
      intro q hq
      simp only [List.mem_cons, List.not_mem_nil, or_false] at hq
      rcases hq with rfl
      · exact ⟨⟨He.cls_ok (c.t.fact 19 rfl), He.noat_ok (c.t.fact 24 rfl), rfl, (show ("way" : Str) ∉ (flT 18).take 4 by decide)⟩, by decide⟩
    s_rows := by
      intro q hq
      simp only [List.mem_cons, List.not_mem_nil, or_false] at hq
      rcases hq with rfl
      · exact ⟨⟨He.cls_ok (c.t.fact 19 rfl), He.noat_ok (c.t.fact 25 rfl), rfl, (show ("rows" : Str) ∉ (flT 18).take 5 by decide)⟩, by decide⟩
    e_BadName := by
      obtain ⟨h1, h2, h3, h4⟩ := He.exc_ok (c.t.fact 26 rfl)
      exact ⟨He.glo_ok X G (c.t.fact 27 rfl), h1, h2, h3, h4⟩
    g_MOST_SIGNS := by obtain ⟨t, h⟩ := He.int_ok X G (c.t.fact 28 rfl); exact ⟨_, h, t, rfl⟩
    g_LETTERS := by obtain ⟨t, h⟩ := He.str_ok X G (c.t.fact 29 rfl); exact ⟨_, h, t, rfl⟩
    n_all := He.free_ok X G (c.t.fact 30 rfl)
    e_BadRow := by
      obtain ⟨h1, h2, h3, h4⟩ := He.exc_ok (c.t.fact 31 rfl)
      exact ⟨He.glo_ok X G (c.t.fact 32 rfl), h1, h2, h3, h4⟩
    n_zip := He.free_ok X G (c.t.fact 33 rfl)
    f_low := by
      intro q hq
      simp only [List.mem_cons, List.not_mem_nil, or_false] at hq
      rcases hq with rfl | rfl
      · exact ⟨He.cls_ok (c.t.fact 6 rfl), He.noat_ok (c.t.fact 7 rfl), rfl, (show ("low" : Str) ∉ (flT 9).take 0 by decide)⟩
      · exact ⟨He.cls_ok (c.t.fact 8 rfl), He.noat_ok (c.t.fact 9 rfl), rfl, (show ("low" : Str) ∉ (flT 10).take 0 by decide)⟩
    f_high := by
      intro q hq
      simp only [List.mem_cons, List.not_mem_nil, or_false] at hq
      rcases hq with rfl | rfl
      · exact ⟨He.cls_ok (c.t.fact 6 rfl), He.noat_ok (c.t.fact 10 rfl), rfl, (show ("high" : Str) ∉ (flT 9).take 1 by decide)⟩
      · exact ⟨He.cls_ok (c.t.fact 8 rfl), He.noat_ok (c.t.fact 11 rfl), rfl, (show ("high" : Str) ∉ (flT 10).take 1 by decide)⟩
    s_called := by
      intro q hq
      simp only [List.mem_cons, List.not_mem_nil, or_false] at hq
      rcases hq with rfl | rfl | rfl | rfl | rfl | rfl
      · exact ⟨⟨He.cls_ok (c.t.fact 34 rfl), He.noat_ok (c.t.fact 35 rfl), rfl, (show ("called" : Str) ∉ (flT 12).take 0 by decide)⟩, by decide⟩
      · exact ⟨⟨He.cls_ok (c.t.fact 36 rfl), He.noat_ok (c.t.fact 37 rfl), rfl, (show ("called" : Str) ∉ (flT 13).take 0 by decide)⟩, by decide⟩
      · exact ⟨⟨He.cls_ok (c.t.fact 38 rfl), He.noat_ok (c.t.fact 39 rfl), rfl, (show ("called" : Str) ∉ (flT 14).take 0 by decide)⟩, by decide⟩
      · exact ⟨⟨He.cls_ok (c.t.fact 40 rfl), He.noat_ok (c.t.fact 41 rfl), rfl, (show ("called" : Str) ∉ (flT 15).take 0 by decide)⟩, by decide⟩
      · exact ⟨⟨He.cls_ok (c.t.fact 42 rfl), He.noat_ok (c.t.fact 43 rfl), rfl, (show ("called" : Str) ∉ (flT 16).take 0 by decide)⟩, by decide⟩
      · exact ⟨⟨He.cls_ok (c.t.fact 44 rfl), He.noat_ok (c.t.fact 45 rfl), rfl, (show ("called" : Str) ∉ (flT 17).take 0 by decide)⟩, by decide⟩
    c_NoTable := He.glo_ok X G (c.t.fact 46 rfl)
    h_NoTable := by
      intro q hq
      simp only [List.mem_cons, List.not_mem_nil, or_false] at hq
      rcases hq with rfl | rfl | rfl | rfl | rfl | rfl | rfl | rfl | rfl | rfl
      · exact He.exm_ok (c.t.fact 47 rfl)
      · exact He.exm_ok (c.t.fact 48 rfl)
      · exact He.exm_ok (c.t.fact 49 rfl)
      · exact He.exm_ok (c.t.fact 50 rfl)
      · exact He.exm_ok (c.t.fact 51 rfl)
      · exact He.exm_ok (c.t.fact 52 rfl)
      · exact He.exm_ok (c.t.fact 53 rfl)
      · exact He.exm_ok (c.t.fact 54 rfl)
      · exact He.exm_ok (c.t.fact 55 rfl)
      · exact He.exm_ok (c.t.fact 56 rfl)
    f_tables := by
      intro q hq
      simp only [List.mem_cons, List.not_mem_nil, or_false] at hq
      rcases hq with rfl
      · exact ⟨He.cls_ok (c.t.fact 57 rfl), He.noat_ok (c.t.fact 58 rfl), rfl, (show ("tables" : Str) ∉ (flT 24).take 1 by decide)⟩
    f_name := by
      intro q hq
      simp only [List.mem_cons, List.not_mem_nil, or_false] at hq
      rcases hq with rfl
      · exact ⟨He.cls_ok (c.t.fact 19 rfl), He.noat_ok (c.t.fact 20 rfl), rfl, (show ("name" : Str) ∉ (flT 18).take 0 by decide)⟩
    f_names := by
      intro q hq
      simp only [List.mem_cons, List.not_mem_nil, or_false] at hq
      rcases hq with rfl
      · exact ⟨He.cls_ok (c.t.fact 19 rfl), He.noat_ok (c.t.fact 21 rfl), rfl, (show ("names" : Str) ∉ (flT 18).take 1 by decide)⟩
    e_NoTable := by
      obtain ⟨h1, h2, h3, h4⟩ := He.exc_ok (c.t.fact 59 rfl)
      exact ⟨He.glo_ok X G (c.t.fact 46 rfl), h1, h2, h3, h4⟩
    g_MOST_FACTS := by obtain ⟨t, h⟩ := He.int_ok X G (c.t.fact 60 rfl); exact ⟨_, h, t, rfl⟩
    g_MOST_TABLES := by obtain ⟨t, h⟩ := He.int_ok X G (c.t.fact 61 rfl); exact ⟨_, h, t, rfl⟩
    s_facts := by
      intro q hq
      simp only [List.mem_cons, List.not_mem_nil, or_false] at hq
      rcases hq with rfl
      · exact ⟨⟨He.cls_ok (c.t.fact 57 rfl), He.noat_ok (c.t.fact 62 rfl), rfl, (show ("facts" : Str) ∉ (flT 24).take 0 by decide)⟩, by decide⟩
    s_tables := by
      intro q hq
      simp only [List.mem_cons, List.not_mem_nil, or_false] at hq
      rcases hq with rfl
      · exact ⟨⟨He.cls_ok (c.t.fact 57 rfl), He.noat_ok (c.t.fact 58 rfl), rfl, (show ("tables" : Str) ∉ (flT 24).take 1 by decide)⟩, by decide⟩
    f_domains := by
      intro q hq
      simp only [List.mem_cons, List.not_mem_nil, or_false] at hq
      rcases hq with rfl
      · exact ⟨He.cls_ok (c.t.fact 19 rfl), He.noat_ok (c.t.fact 22 rfl), rfl, (show ("domains" : Str) ∉ (flT 18).take 2 by decide)⟩
    e_Unlike := by
      obtain ⟨h1, h2, h3, h4⟩ := He.exc_ok (c.t.fact 63 rfl)
      exact ⟨He.glo_ok X G (c.t.fact 64 rfl), h1, h2, h3, h4⟩
    f_words := by
      intro q hq
      simp only [List.mem_cons, List.not_mem_nil, or_false] at hq
      rcases hq with rfl
      · exact ⟨He.cls_ok (c.t.fact 8 rfl), He.noat_ok (c.t.fact 65 rfl), rfl, (show ("words" : Str) ∉ (flT 10).take 2 by decide)⟩
    c_Numbers := He.glo_ok X G (c.t.fact 66 rfl)
    i_Numbers := ⟨by
      intro q hq
      simp only [List.mem_cons, List.not_mem_nil, or_false] at hq
      rcases hq with rfl | rfl
      · exact (of_decide_eq_true (all_at c.more 15))
      · exact (of_decide_eq_true (all_at c.more 16)),
    by
      intro q hq
      simp only [List.mem_cons, List.not_mem_nil, or_false] at hq
      rcases hq with rfl | rfl
      · exact fun c h => by
            obtain rfl : c = 9 := by omega
            exact ⟨He.cls_ok (c.t.fact 6 rfl), (of_decide_eq_true (all_at c.more 9)), (of_decide_eq_true (all_at c.more 10)), (of_decide_eq_true (all_at c.more 11)), (of_decide_eq_true (all_at c.more 12))⟩
      · exact fun c h => by
            obtain rfl : c = 10 := by omega
            exact ⟨He.cls_ok (c.t.fact 8 rfl), (of_decide_eq_true (all_at c.more 13)), (of_decide_eq_true (all_at c.more 10)), (of_decide_eq_true (all_at c.more 11)), (of_decide_eq_true (all_at c.more 14))⟩⟩
    e_Ring := by
      obtain ⟨h1, h2, h3, h4⟩ := He.exc_ok (c.t.fact 67 rfl)
      exact ⟨He.glo_ok X G (c.t.fact 68 rfl), h1, h2, h3, h4⟩
    f_outcome := by
      intro q hq
      simp only [List.mem_cons, List.not_mem_nil, or_false] at hq
      rcases hq with rfl
      · exact ⟨He.cls_ok (c.t.fact 19 rfl), He.noat_ok (c.t.fact 23 rfl), rfl, (show ("outcome" : Str) ∉ (flT 18).take 3 by decide)⟩
    m__law_asked := He.glo_ok X G (c.t.fact 69 rfl)
    m__law_at := He.glo_ok X G (c.t.fact 70 rfl)
    m__law_folded := He.glo_ok X G (c.t.fact 71 rfl)
    m__law_names := He.glo_ok X G (c.t.fact 72 rfl)
    c_Domain := He.glo_ok X G (c.t.fact 73 rfl)
    b_Domain := ⟨.type "type", ⟨(of_decide_eq_true (all_at c.more 17)), (of_decide_eq_true (all_at c.more 18))⟩, ⟨clsB_ok (all_at c.more 19), rfl⟩⟩
    mk_Numbers := He.mkr_ok (c.t.fact 74 rfl)
    m_is_word := He.glo_ok X G (c.t.fact 75 rfl)
    m_look_at_names := He.glo_ok X G (c.t.fact 76 rfl)
    m_look_at_row := He.glo_ok X G (c.t.fact 77 rfl)
    m_own_rows := He.glo_ok X G (c.t.fact 78 rfl)
    c_Way := He.glo_ok X G (c.t.fact 79 rfl)
    b_Way := ⟨.type "type", ⟨(of_decide_eq_true (all_at c.more 20)), (of_decide_eq_true (all_at c.more 21))⟩, ⟨clsB_ok (all_at c.more 22), rfl⟩⟩
    c_First := He.glo_ok X G (c.t.fact 80 rfl)
    mk_First := He.mkr_ok (c.t.fact 81 rfl)
    c_High := He.glo_ok X G (c.t.fact 82 rfl)
    mk_High := He.mkr_ok (c.t.fact 83 rfl)
    c_Like := He.glo_ok X G (c.t.fact 84 rfl)
    mk_Like := He.mkr_ok (c.t.fact 85 rfl)
    c_Low := He.glo_ok X G (c.t.fact 86 rfl)
    mk_Low := He.mkr_ok (c.t.fact 87 rfl)
    c_Only := He.glo_ok X G (c.t.fact 88 rfl)
    mk_Only := He.mkr_ok (c.t.fact 89 rfl)
    c_Sum := He.glo_ok X G (c.t.fact 90 rfl)
    mk_Sum := He.mkr_ok (c.t.fact 91 rfl)
    m_way_by := He.glo_ok X G (c.t.fact 92 rfl)
    c_Table := He.glo_ok X G (c.t.fact 93 rfl)
    mk_Table := He.mkr_ok (c.t.fact 94 rfl)
    m__law_net_table := He.glo_ok X G (c.t.fact 95 rfl)
    m_table_of := He.glo_ok X G (c.t.fact 96 rfl)
    m_asks := He.glo_ok X G (c.t.fact 97 rfl)
    m_gathered := He.glo_ok X G (c.t.fact 98 rfl)
    m_order_of := He.glo_ok X G (c.t.fact 99 rfl)
    m__law_no_table := He.glo_ok X G (c.t.fact 100 rfl)
    m__law_order := He.glo_ok X G (c.t.fact 101 rfl)
    m_alike := He.glo_ok X G (c.t.fact 102 rfl)
    m_look_at_columns := He.glo_ok X G (c.t.fact 103 rfl)
    m_free_of := He.glo_ok X G (c.t.fact 104 rfl)
    m_look_for_rings := He.glo_ok X G (c.t.fact 105 rfl)
    m_named_domains := He.glo_ok X G (c.t.fact 106 rfl)
    c_Book := He.glo_ok X G (c.t.fact 107 rfl)
    mk_Book := He.mkr_ok (c.t.fact 108 rfl)
theorem hDe {K : PySem.W.Frag} (c : SaysV hFacts hDefs hMore K) : De K where
    d__law_asked := c.t.def_ 0 rfl
    d__law_at := c.t.def_ 1 rfl
    d__law_folded := c.t.def_ 2 rfl
    d__law_names := c.t.def_ 3 rfl
    d_Domain___init__ := c.t.def_ 4 rfl
    d_Numbers___init__ := c.t.def_ 5 rfl
    d_is_word := c.t.def_ 6 rfl
    d_look_at_names := c.t.def_ 7 rfl
    d_look_at_row := c.t.def_ 8 rfl
    d_own_rows := c.t.def_ 9 rfl
    d_Way___init__ := c.t.def_ 10 rfl
    d_First___init__ := c.t.def_ 11 rfl
    d_High___init__ := c.t.def_ 12 rfl
    d_Like___init__ := c.t.def_ 13 rfl
    d_Low___init__ := c.t.def_ 14 rfl
    d_Only___init__ := c.t.def_ 15 rfl
    d_Sum___init__ := c.t.def_ 16 rfl
    d_way_by := c.t.def_ 17 rfl
    d_Table___init__ := c.t.def_ 18 rfl
    d__law_net_table := c.t.def_ 19 rfl
    d_table_of := c.t.def_ 20 rfl
    d_asks := c.t.def_ 21 rfl
    d_gathered := c.t.def_ 22 rfl
    d_order_of := c.t.def_ 23 rfl
    d__law_no_table := c.t.def_ 24 rfl
    d__law_order := c.t.def_ 25 rfl
    d_alike := c.t.def_ 26 rfl
    d_look_at_columns := c.t.def_ 27 rfl
    d_free_of := c.t.def_ 28 rfl
    d_look_for_rings := c.t.def_ 29 rfl
    d_named_domains := c.t.def_ 30 rfl
    d_Book___init__ := c.t.def_ 31 rfl
    d_law := c.t.def_ 32 rfl
theorem hfacts {P : Program} {w : World} {K : PySem.W.Frag} {h : Heap} {mg : Str → Option Value} {f : Addr} (hs : ∀ ns : List Int, ns.length ≤ 63 → f_law [.scr ns] = .ok (.bl true)) (X : K.In h) (G : h.Ns mainGlobals mg) (hfa : mg ("law" : Str) = some (.ref f)) (c : SaysV hFacts hDefs hMore K) :
    ∃ fd : FuncData, (∀ (s : Shared) (v : Value), BindsTo s fd ⟨[v], []⟩ [("script", v)]) ∧ ∀ base : Heap, K.In base → base.Ns mainGlobals mg → FnOk P w K mg base CX0 46 f fd ["script"] (spLaw K) := by
  obtain ⟨fd, F⟩ := c.t.def_ 32 rfl
  have e := hfa.symm.trans (He.glo_ok X G (c.t.fact 109 (f := .glo "law") rfl))
  cases e
  have b := FunD.bindsA (ps := ["script"]) F fun _ _ _ _ _ _ us hl => match us, hl with | [_], _ => rfl
  exact ⟨fd, fun s v => b s [v] rfl, fun base _ _ => ok_law (hFx X G c) (hDe c) hs F⟩
end Vi
open PySem PySem.W PySem.Calls PyProof.Rows
theorem Vi.holds (hs : ∀ ns : List Int, ns.length ≤ 63 → Vi.f_law [.scr ns] = .ok (.bl true)) : PySem.Challenge.rw_rowjudge_k74_order_of.Holds := by
  w_on; o_law
  refine HandSHeadRun.head_any (r := OpenLaw.row PySem.Challenge.rw_rowjudge_k74_order_of) (q := view (OpenLaw.row PySem.Challenge.rw_rowjudge_k74_order_of).prog [57]) (H := Vi.hk) (ob := Vi.hob) (M := 40000) (loose := Vi.hLoose) (d := HandSHeadRun.topDef (OpenLaw.row PySem.Challenge.rw_rowjudge_k74_order_of).prog 57) (kwd := []) Vi.hob_eq
    (by kernel_rfl) (fun s => by kernel_rfl) Vi.hrun (by kernel_rfl) (by kernel_rfl) (by kernel_rfl) (by rfl) (by first | assumption | decide +kernel) (by decide +kernel) ⟨rfl, rfl, rfl, rfl, rfl, by decide +kernel⟩ ?hw ?hc
  case hw => w_witness2
  case hc =>
    refine L2.walk_ofE (l := PySem.Challenge.rw_rowjudge_k74_order_of) (n := 63) (k := 46) (x := "script") (CX := L2.CX0) rfl (by decide) (by kernel_rfl) ⟨rfl, by decide, by decide⟩ ?F (fun _ _ _ _ z => z)
    intro w mg fa h Y G hmg0
    obtain ⟨K, KX, c⟩ := Y
    have hmg : mg ("law" : PySem.Str) = some (.ref fa) := by
      have e : (HandSHeadRun.topDef (OpenLaw.row PySem.Challenge.rw_rowjudge_k74_order_of).prog 57).name = ("law" : PySem.Str) := by kernel_rfl
      rw [← e]
      exact hmg0
    obtain ⟨fd, hb, hF⟩ := Vi.hfacts (P := (PySem.Challenge.rw_rowjudge_k74_order_of).prog) (w := w) hs KX G hmg c
    exact ⟨K, fd, Vi.spLaw K, KX, hb, fun H a ns hl _ hS => ⟨a, ns, rfl, hl, hS, fun _ => rfl⟩, hF⟩

theorem PySem.Challenge.cw_rowjudge_k74_order_of_holds : PySem.Challenge.rw_rowjudge_k74_order_of.Holds := by
  exact Vi.holds Vi.law_eq
