import PyProof.Rows.All
import Wide.All
import OpenK.AllK
import Wide.FinOn
import HandS.ForMost
import HandS.CallLocal
import HandS.Flow
import HandS.Exc
import HandS.WordsExc
import HandS.Zip
import HandS.SortInts
import HandS.Wide
import HandS.WideBits
import HandS.IsInst
import HandS.TupAny
import HandS.Style
import HandS.RaiseMore
import KE.KTupSum
import HandS.Gcd
import KE.KMinKey
import PyProof.EnumMake
import PyProof.Draws
import PyProof.WalksMore
import HandS.Zip0
import HandS.SetFor
import HandS.Strs
import KE.KRevSl
import HandS.Ends
import KE.DatumMore
import KE.SortData
import PySem.Challenge.RW_changegiven_k69_whole_greedy_beside_chai
set_option Elab.async false
set_option linter.all false
set_option maxRecDepth 100000
set_option maxHeartbeats 4000000
/-! Pu, part 1: data without a heap, what of a heap a datum leans on, slots, the steps of an abstract state. -/
namespace Pu
open PySem PySem.Spec PyProof.Rows L2

/-- a value as data: lists by what they hold (a list that nobody writes to any more) -/
inductive D where
  | non | bl (b : Bool) | int (i : Int) | str (x : Str) | tup (xs : List D) | lst (xs : List D) | rol (xs : List D) | fn (k : Nat)
  deriving Inhabited

structure RC where
  K : PySem.W.Frag
  fa : Nat → Option Addr
  xc : Nat → Option Value

mutual
def Rep (R : RC) (H : Hp) : D → V → Prop
  | .non, v => v = .non
  | .bl b, v => v = .bl b
  | .int i, v => v = .int i
  | .str x, v => v = .str x
  | .tup xs, v => ∃ a vs, v = .ref a ∧ SqT R.K H a vs ∧ Reps R H xs vs
  | .lst xs, v => ∃ a vs, v = .ref a ∧ H a = some (.lst vs) ∧ Reps R H xs vs
  | .rol xs, v => ∃ a vs, v = .ref a ∧ SqL R.K H a vs ∧ Reps R H xs vs
  | .fn k, v => ∃ f, v = .ref f ∧ R.fa k = some f
def Reps (R : RC) (H : Hp) : List D → List V → Prop
  | [], vs => vs = []
  | d :: ds, vs => ∃ v r, vs = v :: r ∧ Rep R H d v ∧ Reps R H ds r
end

def Le (H H' : Hp) : Prop := ∀ a o, H a = some o → H' a = some o
theorem Le.refl (H : Hp) : Le H H := fun _ _ h => h
theorem Le.trans {H H1 H2 : Hp} (a : Le H H1) (b : Le H1 H2) : Le H H2 := fun x o h => b x o (a x o h)
theorem Le.new {H : Hp} {p : Addr} {o : HO} (h : H p = none) : Le H (upd H p o) := fun a u e => by
  rw [upd_ne (ne_of_none e h)]
  exact e
theorem le_rd {H H' : Hp} {a : Addr} {u : HO} (e : Le H H') (h : Rd H a u) : Rd H' a u := by
  rcases h with h | ⟨o, h⟩
  · exact Or.inl (e a _ h)
  · exact Or.inr ⟨o, e a _ h⟩
theorem le_l {K : PySem.W.Frag} {H H' : Hp} {a : Addr} {xs : List V} (e : Le H H') (h : SqL K H a xs) : SqL K H' a xs := by
  rcases h with h | h
  · exact Or.inl (le_rd e h)
  · exact Or.inr h
theorem le_t {K : PySem.W.Frag} {H H' : Hp} {a : Addr} {xs : List V} (e : Le H H') (h : SqT K H a xs) : SqT K H' a xs := by
  rcases h with h | h
  · exact Or.inl (le_rd e h)
  · exact Or.inr h

mutual
theorem Rep.le {R : RC} {H H' : Hp} (e : Le H H') : ∀ (d : D) (v : V), Rep R H d v → Rep R H' d v
  | .non, _, h => h
  | .bl _, _, h => h
  | .int _, _, h => h
  | .str _, _, h => h
  | .fn _, _, h => h
  | .tup xs, v, h => by
    obtain ⟨a, vs, e1, s, r⟩ := h
    exact ⟨a, vs, e1, le_t e s, Reps.le e xs vs r⟩
  | .lst xs, v, h => by
    obtain ⟨a, vs, e1, s, r⟩ := h
    exact ⟨a, vs, e1, e _ _ s, Reps.le e xs vs r⟩
  | .rol xs, v, h => by
    obtain ⟨a, vs, e1, s, r⟩ := h
    exact ⟨a, vs, e1, le_l e s, Reps.le e xs vs r⟩
theorem Reps.le {R : RC} {H H' : Hp} (e : Le H H') : ∀ (ds : List D) (vs : List V), Reps R H ds vs → Reps R H' ds vs
  | [], _, h => h
  | d :: ds, vs, h => by
    obtain ⟨v, r, e1, h1, h2⟩ := h
    exact ⟨v, r, e1, Rep.le e d v h1, Reps.le e ds r h2⟩
end
theorem Reps.length {R : RC} {H : Hp} : ∀ {ds : List D} {vs : List V}, Reps R H ds vs → vs.length = ds.length
  | [], _, h => by
    have e : _ = [] := h
    rw [e]
    rfl
  | d :: ds, vs, h => by
    obtain ⟨v, r, e1, h1, h2⟩ := h
    rw [e1, List.length_cons, List.length_cons, Reps.length h2]
theorem Reps.get {R : RC} {H : Hp} : ∀ {ds : List D} {vs : List V} {i : Nat} {d : D}, Reps R H ds vs → ds[i]? = some d → ∃ v, vs[i]? = some v ∧ Rep R H d v
  | [], _, i, d, h, e => by simp at e
  | d :: ds, vs, 0, d', h, e => by
    obtain ⟨v, r, e1, h1, h2⟩ := h
    have e2 : d = d' := by simpa using e
    subst e2
    exact ⟨v, by rw [e1]; rfl, h1⟩
  | d :: ds, vs, i + 1, d', h, e => by
    obtain ⟨v, r, e1, h1, h2⟩ := h
    obtain ⟨w, g1, g2⟩ := Reps.get (i := i) (d := d') h2 (by simpa using e)
    exact ⟨w, by rw [e1]; simpa using g1, g2⟩
theorem Reps.getV {R : RC} {H : Hp} {ds : List D} {vs : List V} {i : Nat} {v : V} (h : Reps R H ds vs) (e : vs[i]? = some v) : ∃ d, ds[i]? = some d ∧ Rep R H d v := by
  have hl := h.length
  have hi : i < ds.length := by
    have := (List.getElem?_eq_some_iff.mp e).1
    omega
  obtain ⟨w, g1, g2⟩ := h.get (List.getElem?_eq_getElem hi)
  rw [e] at g1
  cases g1
  exact ⟨_, List.getElem?_eq_getElem hi, g2⟩
theorem Reps.set {R : RC} {H : Hp} {d : D} {v : V} (hd : Rep R H d v) : ∀ {ds : List D} {vs : List V} (i : Nat), Reps R H ds vs → Reps R H (ds.set i d) (vs.set i v)
  | [], vs, i, h => by
    have e : vs = [] := h
    subst e
    exact h
  | x :: ds, vs, 0, h => by
    obtain ⟨w, r, e1, h1, h2⟩ := h
    subst e1
    exact ⟨v, r, rfl, hd, h2⟩
  | x :: ds, vs, i + 1, h => by
    obtain ⟨w, r, e1, h1, h2⟩ := h
    subst e1
    exact ⟨w, r.set i v, rfl, h1, Reps.set hd i h2⟩
theorem Reps.append {R : RC} {H : Hp} : ∀ {ds es : List D} {vs ws : List V}, Reps R H ds vs → Reps R H es ws → Reps R H (ds ++ es) (vs ++ ws)
  | [], es, vs, ws, h, g => by
    have e : vs = [] := h
    subst e
    exact g
  | x :: ds, es, vs, ws, h, g => by
    obtain ⟨w, r, e1, h1, h2⟩ := h
    subst e1
    exact ⟨w, r ++ ws, rfl, h1, Reps.append h2 g⟩
theorem Reps.one {R : RC} {H : Hp} {d : D} {v : V} (h : Rep R H d v) : Reps R H [d] [v] := ⟨v, [], rfl, h, rfl⟩
theorem Reps.drop {R : RC} {H : Hp} : ∀ {ds : List D} {vs : List V} (n : Nat), Reps R H ds vs → Reps R H (ds.drop n) (vs.drop n)
  | _, _, 0, h => h
  | [], vs, n + 1, h => by
    have e : vs = [] := h
    subst e
    exact h
  | x :: ds, vs, n + 1, h => by
    obtain ⟨w, r, e1, h1, h2⟩ := h
    subst e1
    exact Reps.drop n h2
theorem Reps.take {R : RC} {H : Hp} : ∀ {ds : List D} {vs : List V} (n : Nat), Reps R H ds vs → Reps R H (ds.take n) (vs.take n)
  | _, _, 0, h => rfl
  | [], vs, n + 1, h => by
    have e : vs = [] := h
    subst e
    exact h
  | x :: ds, vs, n + 1, h => by
    obtain ⟨w, r, e1, h1, h2⟩ := h
    subst e1
    exact ⟨w, r.take n, rfl, h1, Reps.take n h2⟩
theorem Reps.flat {R : RC} {H : Hp} {ds : List D} {vs : List V} (h : Reps R H ds vs) : ∀ n : Nat, Reps R H (List.replicate n ds).flatten (List.replicate n vs).flatten
  | 0 => rfl
  | n + 1 => by
    rw [List.replicate_succ, List.replicate_succ, List.flatten_cons, List.flatten_cons]
    exact Reps.append h (Reps.flat h n)
theorem Reps.dropLast {R : RC} {H : Hp} {ds : List D} {vs : List V} (h : Reps R H ds vs) : Reps R H ds.dropLast vs.dropLast := by
  rw [List.dropLast_eq_take, List.dropLast_eq_take, h.length]
  exact h.take _
theorem Reps.rev {R : RC} {H : Hp} : ∀ {ds : List D} {vs : List V}, Reps R H ds vs → Reps R H ds.reverse vs.reverse
  | [], vs, h => by
    have e : vs = [] := h
    subst e
    exact h
  | x :: ds, vs, h => by
    obtain ⟨w, r, e1, h1, h2⟩ := h
    subst e1
    rw [List.reverse_cons, List.reverse_cons]
    exact Reps.append (Reps.rev h2) (.one h1)
theorem Reps.ints {R : RC} {H : Hp} : ∀ (ns : List Int) {vs : List V}, Reps R H (ns.map D.int) vs → vs = ns.map V.int
  | [], vs, h => h
  | n :: ns, vs, h => by
    obtain ⟨w, r, e1, h1, h2⟩ := h
    have e2 : w = .int n := h1
    rw [e1, e2, Reps.ints ns h2]
    rfl
theorem Reps.of_ints {R : RC} {H : Hp} : ∀ (ns : List Int), Reps R H (ns.map D.int) (ns.map V.int)
  | [] => rfl
  | n :: ns => ⟨.int n, ns.map V.int, rfl, rfl, Reps.of_ints ns⟩
theorem Reps.bls {R : RC} {H : Hp} : ∀ (ns : List Bool) {vs : List V}, Reps R H (ns.map D.bl) vs → vs = ns.map V.bl
  | [], vs, h => h
  | n :: ns, vs, h => by
    obtain ⟨w, r, e1, h1, h2⟩ := h
    have e2 : w = .bl n := h1
    rw [e1, e2, Reps.bls ns h2]
    rfl

/-! ### slots -/
inductive Sl where
  | no | im (d : D) | ow (xs : List D) | io (xs : List D)
  deriving Inhabited
abbrev Env := List Sl
/-- a value: data, or a list that was just made -/
inductive Rv where
  | im (d : D) | nw (xs : List D)
  deriving Inhabited
def Rv.d : Rv → D
  | .im d => d
  | .nw xs => .lst xs
def Rv.sl : Rv → Sl
  | .im d => .im d
  | .nw xs => .ow xs

/-- M0: hidden; O0: among these what may be written; io: by slot; P: what never changes -/
structure Cc where
  M0 : Addr → Bool
  O0 : Addr → Bool
  io : Nat → Addr
  P : Hp
def hid (H : Hp) (M : Addr → Bool) : Hp := fun a => if M a = true then none else H a
/-- the heap that data may lean on -/
def vis (C : Cc) (L : Addr → Bool) (H : Hp) : Hp := hid H fun a => C.M0 a || L a
theorem vis_some {C : Cc} {L : Addr → Bool} {H : Hp} {a : Addr} {o : HO} : vis C L H a = some o ↔ C.M0 a = false ∧ L a = false ∧ H a = some o := by
  unfold vis hid
  cases e1 : C.M0 a <;> cases e2 : L a <;> simp [e1, e2]
theorem vis_le (C : Cc) (L : Addr → Bool) (H : Hp) : Le (vis C L H) H := fun a o h => (vis_some.mp h).2.2
def slAt (σ : L2.St) (i : Nat) : Option V := (σ[i]?).join
theorem slAt_some {σ : L2.St} {i : Nat} {v : V} (h : slAt σ i = some v) : σ[i]? = some (some v) := by
  unfold slAt at h
  cases e : σ[i]? with
  | none => rw [e] at h; cases h
  | some o =>
    rw [e] at h
    cases o with
    | none => cases h
    | some w => cases h; rfl
theorem slAt_of {σ : L2.St} {i : Nat} {v : V} (h : σ[i]? = some (some v)) : slAt σ i = some v := by
  unfold slAt
  rw [h]
  rfl
def SlOk (R : RC) (C : Cc) (L : Addr → Bool) (H : Hp) (i : Nat) (v : Option V) : Sl → Prop
  | .no => True
  | .im d => ∃ x, v = some x ∧ Rep R (vis C L H) d x
  | .ow ds => ∃ a vs, v = some (.ref a) ∧ L a = true ∧ H a = some (.lst vs) ∧ Reps R (vis C L H) ds vs
  | .io ds => v = some (.ref (C.io i)) ∧ C.O0 (C.io i) = true ∧ ∃ vs, H (C.io i) = some (.lst vs) ∧ Reps R (vis C L H) ds vs
structure EnvOk (R : RC) (C : Cc) (L : Addr → Bool) (H : Hp) (ρ : Env) (σ : L2.St) : Prop where
  len : ρ.length = σ.length
  sl : ∀ i s, ρ[i]? = some s → SlOk R C L H i (slAt σ i) s
  inj : ∀ i j xs ys, i ≠ j → ρ[i]? = some (.ow xs) → ρ[j]? = some (.ow ys) → slAt σ i ≠ slAt σ j
  ioj : ∀ i j xs ys, i ≠ j → ρ[i]? = some (.io xs) → ρ[j]? = some (.io ys) → C.io i ≠ C.io j
  fr : ∀ a, L a = true → C.M0 a = false ∧ C.P a = none ∧ H a ≠ none
  o0 : ∀ a, C.O0 a = true → C.M0 a = true ∧ C.P a = none
  pr : ∀ a o, C.P a = some o → H a = some o
  lv : ∀ a, C.M0 a = true → H a ≠ none
/-- from (L, H) on to (L', H') -/
structure Step (C : Cc) (L : Addr → Bool) (H : Hp) (L' : Addr → Bool) (H' : Hp) : Prop where
  l : ∀ a, L' a = true → L a = true ∨ H a = none
  k : ∀ a o, H a = some o → C.M0 a = false → L a = false → H' a = some o
theorem Step.refl (C : Cc) (L : Addr → Bool) (H : Hp) : Step C L H L H := ⟨fun _ h => .inl h, fun _ _ h _ _ => h⟩
theorem Step.vis {C : Cc} {L L' : Addr → Bool} {H H' : Hp} (s : Step C L H L' H') : Le (vis C L H) (vis C L' H') := fun a o h => by
  obtain ⟨h1, h2, h3⟩ := vis_some.mp h
  refine vis_some.mpr ⟨h1, ?_, s.k a o h3 h1 h2⟩
  cases e : L' a with
  | false => rfl
  | true =>
    rcases s.l a e with z | z
    · rw [h2] at z; cases z
    · rw [h3] at z; cases z
theorem Step.trans {R : RC} {C : Cc} {L L1 La : Addr → Bool} {H H1 H2 : Hp} {ρ : Env} {σ : L2.St} (s : Step C L H L1 H1) (E : EnvOk R C L1 H1 ρ σ) (t : Step C L1 H1 La H2) : Step C L H La H2 := by
  refine ⟨fun a h => ?_, fun a o h m l => ?_⟩
  · rcases t.l a h with z | z
    · exact s.l a z
    · cases e : H a with
      | none => exact .inr rfl
      | some o =>
        cases m : C.M0 a with
        | true => exact absurd z (E.lv a m)
        | false =>
          cases l : L a with
          | true => exact .inl rfl
          | false =>
            rw [s.k a o e m l] at z
            cases z
  · refine t.k a o (s.k a o h m l) m ?_
    cases e : L1 a with
    | false => rfl
    | true =>
      rcases s.l a e with z | z
      · rw [l] at z; cases z
      · rw [h] at z; cases z
def RvOk (R : RC) (C : Cc) (L : Addr → Bool) (H : Hp) (ρ : Env) (σ : L2.St) (v : V) : Rv → Prop
  | .im d => Rep R (vis C L H) d v
  | .nw ds => ∃ p vs, v = .ref p ∧ L p = true ∧ H p = some (.lst vs) ∧ Reps R (vis C L H) ds vs ∧ ∀ i xs, ρ[i]? = some (.ow xs) → slAt σ i ≠ some (.ref p)
section
variable {R : RC} {C : Cc} {L L' : Addr → Bool} {H H' : Hp} {ρ ρ' : Env} {σ : L2.St}
theorem SlOk.move {i : Nat} {v : Option V} {s : Sl} (h : SlOk R C L H i v s) (e : Le (vis C L H) (vis C L' H')) (hl : ∀ a, L a = true → (∃ xs, s = .ow xs ∧ v = some (.ref a)) → L' a = true)
    (k : ∀ a o, H a = some o → (L a = true ∨ C.O0 a = true) → H' a = some o) : SlOk R C L' H' i v s := by
  cases s with
  | no => trivial
  | im d =>
    obtain ⟨x, e1, r⟩ := h
    exact ⟨x, e1, r.le e⟩
  | ow ds =>
    obtain ⟨a, vs, e1, l, ha, r⟩ := h
    exact ⟨a, vs, e1, hl a l ⟨ds, rfl, e1⟩, k a _ ha (.inl l), r.le e⟩
  | io ds =>
    obtain ⟨e1, o, vs, ha, r⟩ := h
    exact ⟨e1, o, vs, k _ _ ha (.inr o), r.le e⟩
/-- the heap grows -/
theorem EnvOk.grow (E : EnvOk R C L H ρ σ) (e : Le H H') : EnvOk R C L H' ρ σ := by
  have ev : Le (vis C L H) (vis C L H') := fun a o h => by
    obtain ⟨h1, h2, h3⟩ := vis_some.mp h
    exact vis_some.mpr ⟨h1, h2, e a o h3⟩
  have nn : ∀ a, H a ≠ none → H' a ≠ none := fun a h z => by
    cases q : H a with
    | none => exact h q
    | some o => rw [e a o q] at z; cases z
  exact ⟨E.len, fun i s hs => (E.sl i s hs).move ev (fun a l _ => l) fun a o h _ => e a o h, E.inj, E.ioj, fun a l => ⟨(E.fr a l).1, (E.fr a l).2.1, nn a (E.fr a l).2.2⟩, E.o0, fun a o h => e a o (E.pr a o h), fun a h => nn a (E.lv a h)⟩
theorem step_grow (e : Le H H') : Step C L H L H' := ⟨fun _ h => .inl h, fun a o h _ _ => e a o h⟩
theorem EnvOk.new (E : EnvOk R C L H ρ σ) {p : Addr} {o : HO} (np : H p = none) : EnvOk R C L (upd H p o) ρ σ := E.grow (.new np)
theorem EnvOk.notM (E : EnvOk R C L H ρ σ) {p : Addr} (np : H p = none) : C.M0 p = false ∧ L p = false := by
  constructor
  · cases e : C.M0 p with
    | false => rfl
    | true => exact absurd np (E.lv p e)
  · cases e : L p with
    | false => rfl
    | true => exact absurd np (E.fr p e).2.2
theorem EnvOk.visNew (E : EnvOk R C L H ρ σ) {p : Addr} {o : HO} (np : H p = none) : vis C L (upd H p o) p = some o := vis_some.mpr ⟨(E.notM np).1, (E.notM np).2, upd_same⟩
/-- p becomes one's own -/
def addL (L : Addr → Bool) (p : Addr) : Addr → Bool := fun a => L a || decide (a = p)
def subL (L : Addr → Bool) (p : Addr) : Addr → Bool := fun a => L a && !decide (a = p)
theorem addL_iff {p a : Addr} : addL L p a = true ↔ L a = true ∨ a = p := by simp [addL]
theorem subL_iff {p a : Addr} : subL L p a = true ↔ L a = true ∧ a ≠ p := by simp [subL]
/-- a new list of one's own -/
theorem EnvOk.newL (E : EnvOk R C L H ρ σ) {p : Addr} {vs : List V} {ds : List D} (np : H p = none) (r : Reps R (vis C L H) ds vs) :
    EnvOk R C (addL L p) (upd H p (.lst vs)) ρ σ ∧ Step C L H (addL L p) (upd H p (.lst vs)) ∧ RvOk R C (addL L p) (upd H p (.lst vs)) ρ σ (.ref p) (.nw ds) := by
  have st : Step C L H (addL L p) (upd H p (.lst vs)) := ⟨fun a h => by
    rcases addL_iff.mp h with z | z
    · exact .inl z
    · subst z; exact .inr np, fun a o h _ _ => Le.new np a o h⟩
  have E1 := E.new (o := .lst vs) np
  have ev : Le (vis C L H) (vis C (addL L p) (upd H p (.lst vs))) := st.vis
  have hp : C.P p = none := by
    cases e : C.P p with
    | none => rfl
    | some o => rw [E.pr p o e] at np; cases np
  refine ⟨⟨E.len, fun i s hs => (E.sl i s hs).move ev (fun a l _ => addL_iff.mpr (.inl l)) fun a o h _ => Le.new np a o h, E.inj, E.ioj, fun a l => ?_, E.o0, E1.pr, E1.lv⟩, st, p, vs, rfl, addL_iff.mpr (.inr rfl), upd_same, r.le ev, fun i xs hi hz => ?_⟩
  · rcases addL_iff.mp l with z | z
    · exact E1.fr a z
    · subst z
      exact ⟨(E.notM np).1, hp, by rw [upd_same]; exact fun z => by cases z⟩
  · obtain ⟨a, ws, e1, l, ha, _⟩ := E.sl i _ hi
    rw [hz] at e1
    cases e1
    rw [np] at ha
    cases ha
/-- one's own list at p, in no slot, is let go: data from then on -/
theorem EnvOk.free (E : EnvOk R C L H ρ σ) {p : Addr} {vs : List V} {ds : List D} (lp : L p = true) (hp : H p = some (.lst vs)) (r : Reps R (vis C L H) ds vs) (ns : ∀ i xs, ρ[i]? = some (.ow xs) → slAt σ i ≠ some (.ref p)) :
    EnvOk R C (subL L p) H ρ σ ∧ Le (vis C L H) (vis C (subL L p) H) ∧ Rep R (vis C (subL L p) H) (.lst ds) (.ref p) := by
  have ev : Le (vis C L H) (vis C (subL L p) H) := fun a o h => by
    obtain ⟨h1, h2, h3⟩ := vis_some.mp h
    refine vis_some.mpr ⟨h1, ?_, h3⟩
    cases e : subL L p a with
    | false => rfl
    | true => rw [(subL_iff.mp e).1] at h2; cases h2
  refine ⟨⟨E.len, fun i s hs => (E.sl i s hs).move ev (fun a l hz => ?_) fun a o h _ => h, E.inj, E.ioj, fun a l => E.fr a (subL_iff.mp l).1, E.o0, E.pr, E.lv⟩, ev, p, vs, rfl, ?_, r.le ev⟩
  · obtain ⟨xs, rfl, e1⟩ := hz
    refine subL_iff.mpr ⟨l, fun z => ?_⟩
    subst z
    exact ns i xs hs e1
  · refine vis_some.mpr ⟨(E.fr p lp).1, ?_, hp⟩
    cases e : subL L p p with
    | false => rfl
    | true => exact absurd rfl (subL_iff.mp e).2
theorem Step.sub (st : Step C L H L' H') (p : Addr) : Step C L H (subL L' p) H' := ⟨fun a h => st.l a (subL_iff.mp h).1, st.k⟩
/-- any value becomes data -/
theorem RvOk.fz (E : EnvOk R C L H ρ σ) {v : V} {r : Rv} (h : RvOk R C L H ρ σ v r) : ∃ L', EnvOk R C L' H ρ σ ∧ (∀ a, L' a = true → L a = true) ∧ Le (vis C L H) (vis C L' H) ∧ Rep R (vis C L' H) r.d v := by
  cases r with
  | im d => exact ⟨L, E, fun _ h => h, .refl _, h⟩
  | nw ds =>
    obtain ⟨p, vs, e1, l, hp, rr, ns⟩ := h
    subst e1
    obtain ⟨E', ev, q⟩ := E.free l hp rr ns
    exact ⟨_, E', fun a h => (subL_iff.mp h).1, ev, q⟩
theorem Step.less (st : Step C L H L' H') {La : Addr → Bool} (h : ∀ a, La a = true → L' a = true) : Step C L H La H' := ⟨fun a z => st.l a (h a z), st.k⟩
end
end Pu
/-! Pu, part 2: programs by slots, and what they do with data. -/
namespace Pu
open PySem PySem.Spec PyProof.Rows L2

/-! ### results -/
structure XD where
  cls : Nat
  arg : Option (Str × D)
inductive Res (α : Type) where
  | ok (a : α) (ρ : Env) | exc (x : XD) (ρ : Env) | bad
abbrev M (α : Type) := Env → Res α
def mret {α : Type} (a : α) : M α := fun ρ => .ok a ρ
def mbad {α : Type} : M α := fun _ => .bad
def mbind {α β : Type} (m : M α) (f : α → M β) : M β := fun ρ => match m ρ with
  | .ok a ρ' => f a ρ'
  | .exc x ρ' => .exc x ρ'
  | .bad => .bad
def mopt {α : Type} : Option α → M α
  | some a => mret a
  | none => mbad
inductive Fl where
  | nx (ρ : Env) | rt (r : Rv) (ρ : Env) | bk (ρ : Env) | ct (ρ : Env) | exc (x : XD) (ρ : Env) | bad

/-! ### data -/
def D.seq? : D → Option (List D)
  | .tup xs => some xs
  | .lst xs => some xs
  | .rol xs => some xs
  | _ => none
def D.truth : D → Option Bool
  | .non => some false
  | .bl b => some b
  | .int i => some (i != 0)
  | .str x => if x.length ≤ sizeLine then some ((x.length : Int) != 0) else none
  | .tup xs => some (!xs.isEmpty)
  | .lst xs => some (!xs.isEmpty)
  | .rol xs => some (!xs.isEmpty)
  | .fn _ => none
mutual
def D.py : D → Option PyData
  | .non => some .none
  | .bl b => some (.bool b)
  | .int i => some (.int i)
  | .str x => some (.str x)
  | .tup xs => match D.pys xs with
    | some ys => some (.tuple ys)
    | none => none
  | .lst xs => match D.pys xs with
    | some ys => some (.list ys)
    | none => none
  | .rol xs => match D.pys xs with
    | some ys => some (.list ys)
    | none => none
  | .fn _ => none
def D.pys : List D → Option (List PyData)
  | [] => some []
  | x :: xs => match D.py x, D.pys xs with
    | some y, some ys => some (y :: ys)
    | _, _ => none
end
def allI : List D → Option (List Int)
  | [] => some []
  | .int i :: r => match allI r with
    | some is => some (i :: is)
    | none => none
  | _ :: _ => none
def allB : List D → Option (List Bool)
  | [] => some []
  | .bl i :: r => match allB r with
    | some is => some (i :: is)
    | none => none
  | _ :: _ => none
def D.flat : D → Bool
  | .non => true
  | .bl _ => true
  | .int _ => true
  | .str _ => true
  | _ => false
/-- == of flat data -/
def D.feq : D → D → Bool
  | .non, .non => true
  | .bl a, .bl b => a == b
  | .bl a, .int b => (if a then 1 else 0) == b
  | .int a, .bl b => a == (if b then 1 else 0)
  | .int a, .int b => a == b
  | .str a, .str b => a == b
  | _, _ => false
def insI (x : Int) : List Int → List Int
  | [] => [x]
  | y :: r => if x ≤ y then x :: y :: r else y :: insI x r
def sortI : List Int → List Int
  | [] => []
  | x :: r => insI x (sortI r)
def maxI : List Int → Int
  | [] => 0
  | [x] => x
  | x :: r => max x (maxI r)
def minI : List Int → Int
  | [] => 0
  | [x] => x
  | x :: r => min x (minI r)

/-! ### operators -/
inductive B2 where
  | add | sub | mul | fdiv | mod | pow
  deriving DecidableEq
inductive C2 where
  | eq | ne | lt | le | gt | ge | is | isn | mem | nin
  deriving DecidableEq
def B2.op : B2 → Operator
  | .add => .Add
  | .sub => .Sub
  | .mul => .Mult
  | .fdiv => .FloorDiv
  | .mod => .Mod
  | .pow => .Pow
def C2.op : C2 → CmpOp
  | .eq => .Eq
  | .ne => .NotEq
  | .lt => .Lt
  | .le => .LtE
  | .gt => .Gt
  | .ge => .GtE
  | .is => .Is
  | .isn => .IsNot
  | .mem => .In
  | .nin => .NotIn
def B2.den : B2 → D → D → Option Rv
  | .add, .int i, .int j => some (.im (.int (i + j)))
  | .add, .lst xs, .lst ys => if xs.length + ys.length ≤ sizeLine then some (.nw (xs ++ ys)) else none
  | .add, .tup xs, .tup ys => if xs.length + ys.length ≤ sizeLine then some (.im (.tup (xs ++ ys))) else none
  | .sub, .int i, .int j => some (.im (.int (i - j)))
  | .mul, .int i, .int j => if (-(2 ^ 64) < i ∧ i < 2 ^ 64) ∨ (-(2 ^ 64) < j ∧ j < 2 ^ 64) then some (.im (.int (i * j))) else none
  | .mul, .lst xs, .int k => if -(2 ^ 63) ≤ k ∧ k < 2 ^ 63 ∧ xs.length * k.toNat ≤ sizeLine then some (.nw (List.replicate k.toNat xs).flatten) else none
  | .fdiv, .int i, .int j => if 0 < j ∧ j < 1073741824 then some (.im (.int (i / j))) else none
  | .mod, .int i, .int j => if 0 < j then some (.im (.int (i % j))) else none
  | .pow, .int i, .int j => if 0 ≤ j ∧ j ≤ 1000000 ∧ i.natAbs < 2 ^ 64 then some (.im (.int (i ^ j.toNat))) else none
  | _, _, _ => none
/-- x op= y of what does not change in place -/
def B2.aug : B2 → D → D → Option Rv
  | .add, .int i, .int j => some (.im (.int (i + j)))
  | .mul, .int i, .int j => B2.mul.den (.int i) (.int j)
  | .sub, x, y => B2.sub.den x y
  | .fdiv, x, y => B2.fdiv.den x y
  | .mod, x, y => B2.mod.den x y
  | _, _, _ => none
/-- == of any data -/
def D.eq? (x y : D) : Option Bool := match x, y with
  | .int i, .int j => some (decide (i = j))
  | .non, .non => some true
  | .bl i, .bl j => some (decide (i = j))
  | .str i, .str j => some (decide (i = j))
  | .non, .int _ => some false
  | .int _, .non => some false
  | x, y => match x.py, y.py with
    | some d, some e => if SeqAt.shaped d = true ∧ SeqAt.shaped e = true then some (PyData.eqv d e) else none
    | _, _ => none
def C2.den : C2 → D → D → Option Bool
  | .eq, x, y => x.eq? y
  | .ne, x, y => (x.eq? y).map (!·)
  | .lt, .int i, .int j => some (decide (i < j))
  | .le, .int i, .int j => some (decide (i ≤ j))
  | .gt, .int i, .int j => some (decide (j < i))
  | .ge, .int i, .int j => some (decide (j ≤ i))
  | .is, x, .non => some (match x with | .non => true | _ => false)
  | .isn, x, .non => some (match x with | .non => false | _ => true)
  | .is, .bl a, .bl b => some (decide (a = b))
  | .isn, .bl a, .bl b => some (!decide (a = b))
  | .mem, x, .tup ys => if x.flat = true ∧ ys.all D.flat = true then some (ys.any fun y => y.feq x) else none
  | .mem, x, .lst ys => if x.flat = true ∧ ys.all D.flat = true then some (ys.any fun y => y.feq x) else none
  | .nin, x, .tup ys => if x.flat = true ∧ ys.all D.flat = true then some (!ys.any fun y => y.feq x) else none
  | .nin, x, .lst ys => if x.flat = true ∧ ys.all D.flat = true then some (!ys.any fun y => y.feq x) else none
  | _, _, _ => none
/-! ### built-ins by name -/
inductive Bf where
  | len | abs | int | divmod | max2 | min2 | sum | max1 | min1 | all | any | sorted | tuple | list | repr
  deriving DecidableEq
def Bf.name : Bf → Str
  | .len => "len"
  | .abs => "abs"
  | .int => "int"
  | .divmod => "divmod"
  | .max2 => "max"
  | .min2 => "min"
  | .sum => "sum"
  | .max1 => "max"
  | .min1 => "min"
  | .all => "all"
  | .any => "any"
  | .sorted => "sorted"
  | .tuple => "tuple"
  | .list => "list"
  | .repr => "repr"
def dLen : List D → Option Rv
  | [.tup xs] => some (.im (.int xs.length))
  | [.lst xs] => some (.im (.int xs.length))
  | [.rol xs] => some (.im (.int xs.length))
  | _ => none
def dAbs : List D → Option Rv
  | [.int i] => some (.im (.int (if i < 0 then -i else i)))
  | _ => none
def dInt : List D → Option Rv
  | [.int i] => some (.im (.int i))
  | _ => none
def dDivmod : List D → Option Rv
  | [.int i, .int j] => if 0 < j ∧ j < 1073741824 then some (.im (.tup [.int (i / j), .int (i % j)])) else none
  | _ => none
def dMax2 : List D → Option Rv
  | [.int i, .int j] => some (.im (.int (if j > i then j else i)))
  | _ => none
def dMin2 : List D → Option Rv
  | [.int i, .int j] => some (.im (.int (if j < i then j else i)))
  | _ => none
def dSum : List D → Option Rv
  | [.lst xs] => (allI xs).map fun ns => .im (.int ns.sum)
  | [.tup xs] => (allI xs).map fun ns => .im (.int ns.sum)
  | _ => none
def dMax1 : List D → Option Rv
  | [.lst xs] => match allI xs with
    | some (n :: ns) => some (.im (.int (maxI (n :: ns))))
    | _ => none
  | _ => none
def dMin1 : List D → Option Rv
  | [.lst xs] => match allI xs with
    | some (n :: ns) => some (.im (.int (minI (n :: ns))))
    | _ => none
  | _ => none
def dAll : List D → Option Rv
  | [.lst xs] => (allB xs).map fun ns => .im (.bl (ns.all id))
  | _ => none
def dAny : List D → Option Rv
  | [.lst xs] => (allB xs).map fun ns => .im (.bl (ns.any id))
  | _ => none
def dSorted : List D → Option Rv
  | [.lst xs] => (allI xs).map fun ns => .nw ((sortI ns).map D.int)
  | _ => none
def dTuple : List D → Option Rv
  | [.lst xs] => some (.im (.tup xs))
  | [.tup xs] => some (.im (.tup xs))
  | _ => none
def dList : List D → Option Rv
  | [.lst xs] => some (.nw xs)
  | [.tup xs] => some (.nw xs)
  | _ => none
def dRepr : List D → Option Rv
  | [x] => match x.py with
    | some d => if d.showable = true ∧ d.hasDict = false ∧ d.shown.length ≤ sizeLine ∧ d.depth ≤ 20 then some (.im (.str d.shown)) else none
    | none => none
  | _ => none
def dGcd : List D → Option Rv
  | [.int i, .int j] => some (.im (.int ((Nat.gcd i.natAbs j.natAbs : Nat) : Int)))
  | _ => none
def permL {α : Type} : List Nat → List α → List α
  | [], _ => []
  | i :: r, xs => match xs[i]? with
    | some x => x :: permL r xs
    | none => permL r xs
def insSI (x : Int) : List Int → List Int
  | [] => [x]
  | y :: r => if x < y then x :: y :: r else if x = y then y :: r else y :: insSI x r
/-- each once, ascending -/
def setI : List Int → List Int
  | [] => []
  | x :: r => insSI x (setI r)
def ssetD : List D → Option Rv
  | [.tup xs] => match allI xs with
    | some ns => if ns.length < 64 then some (.nw ((setI ns).map D.int)) else none
    | none => none
  | _ => none
def revD : D → Option Rv
  | .lst xs => some (.nw xs.reverse)
  | .rol xs => some (.nw xs.reverse)
  | .tup xs => some (.im (.tup xs.reverse))
  | _ => none
def Bf.den : Bf → List D → Option Rv
  | .len => dLen
  | .abs => dAbs
  | .int => dInt
  | .divmod => dDivmod
  | .max2 => dMax2
  | .min2 => dMin2
  | .sum => dSum
  | .max1 => dMax1
  | .min1 => dMin1
  | .all => dAll
  | .any => dAny
  | .sorted => dSorted
  | .tuple => dTuple
  | .list => dList
  | .repr => dRepr
/-- isinstance by a type's name -/
def D.isA (T : String) : D → Option Bool
  | .non => some (T == "NoneType" || T == "object")
  | .bl _ => some (T == "bool" || T == "int" || T == "object")
  | .int _ => some (T == "int" || T == "object")
  | .str _ => some (T == "str" || T == "object")
  | .tup _ => some (T == "tuple" || T == "object")
  | .lst _ => some (T == "list" || T == "object")
  | .rol _ => some (T == "list" || T == "object")
  | .fn _ => none
def cutD (xs : List D) (lo hi : Option Int) : List D := (xs.drop (HT.sIx xs.length 0 lo)).take (HT.sIx xs.length xs.length hi - HT.sIx xs.length 0 lo)
def cutR : D → Option Int → Option Int → Option Rv
  | .lst xs, lo, hi => some (.nw (cutD xs lo hi))
  | .rol xs, lo, hi => some (.nw (cutD xs lo hi))
  | .tup xs, lo, hi => some (.im (.tup (cutD xs lo hi)))
  | _, _, _ => none

/-! ### the text by slots -/
inductive Cn where
  | non | bl (b : Bool) | int (i : Int) | str (x : Str)
  deriving DecidableEq
def Cn.d : Cn → D
  | .non => .non
  | .bl b => .bl b
  | .int i => .int i
  | .str x => .str x
mutual
inductive E where
  | c (c : Cn) | g (k : Nat) | f (k : Nat) | v (i : Nat) | mv (i : Nat)
  | b2 (o : B2) (a b : E) | c2 (o : C2) (a b : E) | c3 (o o' : C2) (a b c : E)
  | neg (a : E) | not (a : E) | and (es : Es) | or (es : Es) | ite (t : T) (a b : E)
  | tup (es : Es) | lst (es : Es) | sub (a b : E) | osub (i : Nat) (b : E) | slc (a : E) (lo hi : Oe)
  | bf (f : Bf) (es : Es) | isa (a : E) (T : String) | mind (a d : E)
  | call (k : Nat) (as : As) | callv (i : Nat) (es : Es)
  | comp (it : It) (g : Tg) (ts : Ts) (e : E) (own : List Nat)
  | pop (i : Nat) | olen (i : Nat) | gcd (es : Es) | callk (k : Nat) (ns : List Str) (pm : List Nat) (es : Es) | sset (e : E) | rev (e : E) | bad
inductive Es where
  | nil | cons (e : E) (es : Es)
inductive As where
  | nil | e (e : E) (r : As) | io (i : Nat) (r : As)
inductive Oe where
  | none | some (e : E)
inductive T where
  | e (e : E) | c2 (o : C2) (a b : E) | c3 (o o' : C2) (a b c : E) | not (t : T) | and (ts : Ts) | or (ts : Ts) | onil (neg : Bool) (i : Nat)
inductive Ts where
  | nil | cons (t : T) (ts : Ts)
inductive It where
  | seq (e : E) | r1 (a : E) | r2 (a b : E) | r3 (a b c : E) | enum (e : E) | zip (a b : E)
inductive Tg where
  | nm (i : Nat) | sub (i : Nat) (e : E) | tup (gs : Tgs)
inductive Tgs where
  | nil | cons (g : Tg) (gs : Tgs)
end
mutual
inductive S where
  | asg (g : Tg) (e : E) | par (i j : Nat) (a b : E) | par3 (i j l : Nat) (es : Es) | aug (i : Nat) (o : B2) (e : E) | oaug (i : Nat) (j : E) (o : B2) (e : E)
  | app (i : Nat) (e : E) | ex (e : E) | ret (e : E) | retn | ifs (t : T) (a b : Ss)
  | fors (g : Tg) (it : It) (b : Ss) | whil (t : T) (b : Ss) | pass | brk | cont | never
inductive Ss where
  | nil | cons (s : S) (r : Ss) | wipe (is : List Nat) (r : Ss)
end

/-! ### what they do -/
def rd (i : Nat) : M Rv := fun ρ => match ρ[i]? with
  | some (.im d) => .ok (.im d) ρ
  | some (.ow xs) => .ok (.im (.lst xs)) (ρ.set i (.im (.lst xs)))
  | _ => .bad
def mvd (i : Nat) : M Rv := fun ρ => match ρ[i]? with
  | some (.im d) => .ok (.im d) ρ
  | some (.ow xs) => .ok (.nw xs) (ρ.set i .no)
  | _ => .bad
def own (i : Nat) : M (List D) := fun ρ => match ρ[i]? with
  | some (.ow xs) => .ok xs ρ
  | some (.io xs) => .ok xs ρ
  | _ => .bad
def wr (i : Nat) (xs : List D) : M Unit := fun ρ => match ρ[i]? with
  | some (.ow _) => .ok () (ρ.set i (.ow xs))
  | some (.io _) => .ok () (ρ.set i (.io xs))
  | _ => .bad
def st (i : Nat) (r : Rv) : M Unit := fun ρ => match ρ[i]? with
  | some (.io _) => .bad
  | some _ => .ok () (ρ.set i r.sl)
  | none => .bad
def fz (m : M Rv) : M D := mbind m fun r => mret r.d
inductive Ag where
  | d (d : D) | io (i : Nat)
def keepIo : Sl → Sl
  | .io xs => .io xs
  | _ => .no
/-- the arguments as a callee's slots -/
def agsIn (ρ : Env) : List Ag → Option (List Sl)
  | [] => some []
  | .d d :: r => (agsIn ρ r).map (Sl.im d :: ·)
  | .io i :: r => match ρ[i]? with
    | some (.ow xs) => (agsIn ρ r).map (Sl.io xs :: ·)
    | some (.io xs) => (agsIn ρ r).map (Sl.io xs :: ·)
    | _ => none
/-- what they hold behind the call -/
def agsOut (ρ : Env) : List Ag → List Sl → Option Env
  | [], [] => some ρ
  | .d _ :: r, _ :: s => agsOut ρ r s
  | .io i :: r, .io xs :: s => match ρ[i]? with
    | some (.ow _) => agsOut (ρ.set i (.ow xs)) r s
    | some (.io _) => agsOut (ρ.set i (.io xs)) r s
    | _ => none
  | _, _ => none
def iosOf : List Ag → List Nat
  | [] => []
  | .d _ :: r => iosOf r
  | .io i :: r => i :: iosOf r
def nodupB : List Nat → Bool
  | [] => true
  | i :: r => !r.contains i && nodupB r
def callM (φ : M Rv) (as : List Ag) : M Rv := fun ρ => match (if nodupB (iosOf as) = true then agsIn ρ as else none) with
  | none => .bad
  | some args => match φ args with
    | .ok r outs => match agsOut ρ as outs with
      | some ρ' => .ok r ρ'
      | none => .bad
    | .exc x outs => match agsOut ρ as outs with
      | some ρ' => .exc x ρ'
      | none => .bad
    | .bad => .bad
def wipeE (ρ : Env) : List Nat → Env
  | [] => ρ
  | v :: vs => (wipeE ρ vs).set v .no
def noOwn (ρ : Env) (vs : List Nat) : Bool := vs.all fun v => match ρ[v]? with
  | some .no => true
  | some (.im _) => true
  | _ => false
/-- the names of a comprehension as they were -/
def backE (ρ0 ρ : Env) : List Nat → Env
  | [] => ρ
  | v :: vs => (backE ρ0 ρ vs).set v ((ρ0[v]?).getD .no)
def compL (g : D → M Unit) (t : M Bool) (e : M D) (vs : List Nat) : List D → List D → M (List D)
  | [], acc => mret acc
  | d :: ds, acc => fun ρ => match g d (wipeE ρ vs) with
    | .ok _ ρ1 => match t ρ1 with
      | .ok true ρ2 => match e ρ2 with
        | .ok y ρ3 => if acc.length < sizeLine then compL g t e vs ds (acc ++ [y]) ρ3 else .bad
        | _ => .bad
      | .ok false ρ2 => compL g t e vs ds acc ρ2
      | _ => .bad
    | _ => .bad
def compM (items : M (List D)) (g : D → M Unit) (t : M Bool) (e : M D) (vs : List Nat) : M Rv := fun ρ => match items ρ with
  | .ok ds ρ1 => if noOwn ρ1 vs = true then match compL g t e vs ds [] ρ1 with
    | .ok ys ρ2 => .ok (.nw ys) (backE ρ1 ρ2 vs)
    | _ => .bad
    else .bad
  | .exc x ρ1 => .exc x ρ1
  | .bad => .bad
def rngL (lo : Int) (n : Nat) : List D := (List.range n).map fun i => D.int (lo + (i : Nat))
def rngC (lo c : Int) (n : Nat) : List D := (List.range n).map fun i => D.int (lo + (i : Nat) * c)
def ok62 (i : Int) : Bool := decide (-(2 ^ 62) ≤ i) && decide (i < 2 ^ 62)
def enumL (k : Nat) : List D → List D
  | [] => []
  | d :: ds => .tup [.int (k : Nat), d] :: enumL (k + 1) ds
def zipL : List D → List D → List D
  | x :: xs, y :: ys => .tup [x, y] :: zipL xs ys
  | _, _ => []
def Tgs.len : Tgs → Nat
  | .nil => 0
  | .cons _ r => r.len + 1
/-- xs == [], xs != [] of an own list -/
def onilS (neg : Bool) (xs : List D) : M Bool := match D.pys xs with
  | some ys => if SeqAt.shaped (.list ys) = true then mret (if neg = true then !xs.isEmpty else xs.isEmpty) else mbad
  | none => mbad
abbrev FT := Nat → Option (M Rv)
abbrev CT := Nat → Option D
section
variable (G : FT) (W : CT) (fu : Nat)
mutual
def E.den : E → M Rv
  | .c c => mret (.im c.d)
  | .g k => mopt ((W k).map .im)
  | .f k => mret (.im (.fn k))
  | .v i => rd i
  | .mv i => mvd i
  | .b2 o a b => mbind (fz a.den) fun x => mbind (fz b.den) fun y => mopt (o.den x y)
  | .c2 o a b => mbind (fz a.den) fun x => mbind (fz b.den) fun y => mopt ((o.den x y).map fun t => .im (.bl t))
  | .c3 o o' a b c => mbind (fz a.den) fun x => mbind (fz b.den) fun y => mbind (mopt (o.den x y)) fun t =>
      match t with
      | true => mbind (fz c.den) fun z => mopt ((o'.den y z).map fun t => .im (.bl t))
      | false => mret (.im (.bl false))
  | .neg a => mbind (fz a.den) fun x => match x with
    | .int i => mret (.im (.int (-i)))
    | _ => mbad
  | .not a => mbind (fz a.den) fun x => mopt (x.truth.map fun t => .im (.bl (!t)))
  | .and es => es.andD
  | .or es => es.orD
  | .ite t a b => mbind t.den fun k => match k with
    | true => a.den
    | false => b.den
  | .tup es => mbind es.den fun xs => if xs.length ≤ sizeLine then mret (.im (.tup xs)) else mbad
  | .lst es => mbind es.den fun xs => if xs.length ≤ sizeLine then mret (.nw xs) else mbad
  | .sub a b => mbind (fz a.den) fun x => mbind (fz b.den) fun y => match x.seq?, y with
    | some xs, .int i => mopt ((atI xs i).map .im)
    | _, _ => mbad
  | .osub i b => mbind (own i) fun _ => mbind (fz b.den) fun y => mbind (own i) fun xs => match y with
    | .int j => mopt ((atI xs j).map .im)
    | _ => mbad
  | .slc a lo hi => mbind (fz a.den) fun x => mbind lo.den fun l => mbind hi.den fun h => mopt (cutR x l h)
  | .bf f es => mbind es.den fun xs => mopt (f.den xs)
  | .isa a T => mbind (fz a.den) fun x => mopt ((x.isA T).map fun t => .im (.bl t))
  | .mind a d => mbind (fz a.den) fun x => mbind (fz d.den) fun y => match x with
    | .lst xs => match allI xs with
      | some [] => mret (.im y)
      | some ns => mret (.im (.int (minI ns)))
      | none => mbad
    | _ => mbad
  | .call k as => mbind as.den fun xs => match G k with
    | some φ => callM φ xs
    | none => mbad
  | .callv i es => mbind (rd i) fun f => match f with
    | .im (.fn k) => match G k with
      | some φ => mbind es.den fun xs => callM φ (xs.map .d)
      | none => mbad
    | _ => mbad
  | .comp it g ts e vs => compM it.den (fun d => g.den (.im d)) ts.allD (fz e.den) vs
  | .pop i => mbind (own i) fun xs => match xs.getLast? with
    | some x => mbind (wr i xs.dropLast) fun _ => mret (.im x)
    | none => mbad
  | .olen i => mbind (own i) fun xs => mret (.im (.int xs.length))
  | .gcd es => mbind es.den fun xs => mopt (dGcd xs)
  | .callk k _ pm es => mbind es.den fun xs => match G k with
    | some φ => callM φ ((permL pm xs).map .d)
    | none => mbad
  | .sset e => mbind (fz e.den) fun x => mopt (ssetD [x])
  | .rev e => mbind (fz e.den) fun x => mopt (revD x)
  | .bad => mbad
def Es.den : Es → M (List D)
  | .nil => mret []
  | .cons e es => mbind (fz e.den) fun x => mbind es.den fun xs => mret (x :: xs)
def Es.andD : Es → M Rv
  | .nil => mbad
  | .cons e .nil => e.den
  | .cons e (.cons e2 es) => mbind (fz e.den) fun x => match x.truth with
    | some true => (Es.cons e2 es).andD
    | some false => mret (.im x)
    | none => mbad
def Es.orD : Es → M Rv
  | .nil => mbad
  | .cons e .nil => e.den
  | .cons e (.cons e2 es) => mbind (fz e.den) fun x => match x.truth with
    | some false => (Es.cons e2 es).orD
    | some true => mret (.im x)
    | none => mbad
def As.den : As → M (List Ag)
  | .nil => mret []
  | .e e r => mbind (fz e.den) fun x => mbind r.den fun xs => mret (.d x :: xs)
  | .io i r => mbind (own i) fun _ => mbind r.den fun xs => mret (.io i :: xs)
def Oe.den : Oe → M (Option Int)
  | .none => mret Option.none
  | .some e => mbind (fz e.den) fun x => match x with
    | .int i => mret (Option.some i)
    | _ => mbad
def T.den : T → M Bool
  | .e e => mbind (fz e.den) fun x => mopt x.truth
  | .c2 o a b => mbind (fz a.den) fun x => mbind (fz b.den) fun y => mopt (o.den x y)
  | .c3 o o' a b c => mbind (fz a.den) fun x => mbind (fz b.den) fun y => mbind (mopt (o.den x y)) fun t =>
      match t with
      | true => mbind (fz c.den) fun z => mopt (o'.den y z)
      | false => mret false
  | .not t => mbind t.den fun k => mret (!k)
  | .and ts => ts.allD
  | .or ts => ts.anyD
  | .onil neg i => mbind (own i) (onilS neg)
def Ts.allD : Ts → M Bool
  | .nil => mret true
  | .cons t ts => mbind t.den fun k => match k with
    | true => ts.allD
    | false => mret false
def Ts.anyD : Ts → M Bool
  | .nil => mret false
  | .cons t ts => mbind t.den fun k => match k with
    | true => mret true
    | false => ts.anyD
def It.den : It → M (List D)
  | .seq e => mbind (fz e.den) fun x => mopt x.seq?
  | .r1 a => mbind (fz a.den) fun x => match x with
    | .int j => if ok62 j = true then mret (rngL 0 j.toNat) else mbad
    | _ => mbad
  | .r2 a b => mbind (fz a.den) fun x => mbind (fz b.den) fun y => match x, y with
    | .int i, .int j => if ok62 i = true ∧ ok62 j = true then mret (rngL i (j - i).toNat) else mbad
    | _, _ => mbad
  | .r3 a b c => mbind (fz a.den) fun x => mbind (fz b.den) fun y => mbind (fz c.den) fun z => match x, y, z with
    | .int i, .int j, .int k => if k ≠ 0 ∧ k.natAbs < 1073741824 ∧ Builtin.Range.small i j k = true then mret (rngC i k (Builtin.Range.rangeSize i j k).toNat) else mbad
    | _, _, _ => mbad
  | .enum e => mbind (fz e.den) fun x => mopt (x.seq?.map (enumL 0))
  | .zip a b => mbind (fz a.den) fun x => mbind (fz b.den) fun y => match x, y with
    | .lst xs, .lst ys => mret (zipL xs ys)
    | .tup xs, .tup ys => mret (zipL xs ys)
    | _, _ => mbad
def Tg.den : Tg → Rv → M Unit
  | .nm i, r => st i r
  | .sub i e, r => mbind (own i) fun _ => mbind (fz e.den) fun y => mbind (own i) fun xs => match y with
    | .int k => match ixN xs.length k with
      | some j => wr i (xs.set j r.d)
      | none => mbad
    | _ => mbad
  | .tup gs, r => match r with
    | .im (.tup xs) => if xs.length = gs.len then gs.den xs else mbad
    | _ => mbad
def Tgs.den : Tgs → List D → M Unit
  | .nil, [] => mret ()
  | .cons g gs, x :: xs => mbind (g.den (.im x)) fun _ => gs.den xs
  | _, _ => mbad
end
def forL (g : D → M Unit) (b : Env → Fl) : List D → Env → Fl
  | [], ρ => .nx ρ
  | d :: ds, ρ => match g d ρ with
    | .ok _ ρ1 => match b ρ1 with
      | .nx ρ2 => forL g b ds ρ2
      | .ct ρ2 => forL g b ds ρ2
      | .bk ρ2 => .nx ρ2
      | x => x
    | .exc x ρ1 => .exc x ρ1
    | .bad => .bad
def whileL (t : M Bool) (b : Env → Fl) : Nat → Env → Fl
  | 0, _ => .bad
  | n + 1, ρ => match t ρ with
    | .ok true ρ1 => match b ρ1 with
      | .nx ρ2 => whileL t b n ρ2
      | .ct ρ2 => whileL t b n ρ2
      | .bk ρ2 => .nx ρ2
      | x => x
    | .ok false ρ1 => .nx ρ1
    | .exc x ρ1 => .exc x ρ1
    | .bad => .bad
def toFl {α : Type} : Res α → (α → Env → Fl) → Fl
  | .ok a ρ, k => k a ρ
  | .exc x ρ, _ => .exc x ρ
  | .bad, _ => .bad
mutual
def S.den : S → Env → Fl
  | .asg g e, ρ => toFl (mbind (e.den G W) (g.den G W) ρ) fun _ ρ' => .nx ρ'
  | .par i j a b, ρ => toFl (mbind (a.den G W) (fun x => mbind (b.den G W) fun y => mbind (st i x) fun _ => st j y) ρ) fun _ ρ' => .nx ρ'
  | .par3 i j l es, ρ => toFl (mbind (es.den G W) (fun xs => match xs with
      | [x, y, z] => mbind (st i (.im x)) fun _ => mbind (st j (.im y)) fun _ => st l (.im z)
      | _ => mbad) ρ) fun _ ρ' => .nx ρ'
  | .aug i o e, ρ => toFl (mbind (rd i) (fun x => mbind (fz (e.den G W)) fun y => mbind (mopt (o.aug x.d y)) fun z => st i z) ρ) fun _ ρ' => .nx ρ'
  | .oaug i j o e, ρ => toFl (mbind (own i) (fun _ => mbind (fz (j.den G W)) fun y => mbind (own i) fun xs => match y with
      | .int k => match ixN xs.length k with
        | some n => match xs[n]? with
          | some x => mbind (fz (e.den G W)) fun z => mbind (mopt (o.aug x z)) fun r => mbind (own i) fun xs' => if xs'.length = xs.length then wr i (xs'.set n r.d) else mbad
          | none => mbad
        | none => mbad
      | _ => mbad) ρ) fun _ ρ' => .nx ρ'
  | .app i e, ρ => toFl (mbind (own i) (fun _ => mbind (fz (e.den G W)) fun y => mbind (own i) fun xs => if xs.length < sizeLine then wr i (xs ++ [y]) else mbad) ρ) fun _ ρ' => .nx ρ'
  | .ex e, ρ => toFl (e.den G W ρ) fun _ ρ' => .nx ρ'
  | .ret e, ρ => toFl (e.den G W ρ) fun r ρ' => .rt r ρ'
  | .retn, ρ => .rt (.im .non) ρ
  | .ifs t a b, ρ => toFl (t.den G W ρ) fun k ρ' => match k with
    | true => a.den ρ'
    | false => b.den ρ'
  | .fors g it b, ρ => toFl (it.den G W ρ) fun ds ρ' => forL (fun d => g.den G W (.im d)) b.den ds ρ'
  | .whil t b, ρ => whileL (t.den G W) b.den fu ρ
  | .pass, ρ => .nx ρ
  | .brk, ρ => .bk ρ
  | .cont, ρ => .ct ρ
  | .never, _ => .bad
def Ss.den : Ss → Env → Fl
  | .nil, ρ => .nx ρ
  | .cons s r, ρ => match s.den ρ with
    | .nx ρ' => r.den ρ'
    | x => x
  | .wipe is r, ρ => r.den (wipeE ρ is)
end
/-- what the io arguments hold behind a call -/
def outsOf : List Sl → Env → Option (List Sl)
  | [], _ => some []
  | .io _ :: r, .io xs :: ρ => match outsOf r ρ with
    | some o => some (.io xs :: o)
    | none => none
  | .io _ :: _, _ => none
  | _ :: r, _ :: ρ => match outsOf r ρ with
    | some o => some (.no :: o)
    | none => none
  | _ :: _, [] => none
/-- a def of n parameters and N names -/
def Ss.fn (n N : Nat) (b : Ss) : M Rv := fun args => if args.length = n then match b.den G W fu (args ++ List.replicate (N - n) .no) with
    | .rt r ρ => match outsOf args ρ with
      | some o => .ok r o
      | none => .bad
    | .nx ρ => match outsOf args ρ with
      | some o => .ok (.im .non) o
      | none => .bad
    | .exc x ρ => match outsOf args ρ with
      | some o => .exc x o
      | none => .bad
    | _ => .bad
  else .bad
end
end Pu
/-! Pu, part 3: readings that do what the data functions say; operators and built-ins. -/
namespace Pu
open PySem PySem.Spec PyProof.Rows L2

def XOk (R : RC) (C : Cc) (L : Addr → Bool) (H : Hp) (x : XD) (cls : Value) (d : Option Addr) : Prop :=
  R.xc x.cls = some cls ∧ match x.arg with
    | none => d = none
    | some (f, e) => ∃ dd v, d = some dd ∧ H dd = some (.xd [(f, v)]) ∧ Rep R (vis C L H) e v
section
variable (R : RC) (W : WX)
def RunK {α : Type} (m : M α) (σ : L2.St) (H : Hp) (C : Cc) (L : Addr → Bool) (ρ : Env) (K : α → Env → (Addr → Bool) → Hp → Prop) : Prop := match m ρ with
  | .ok a ρ' => ∀ L' H', EnvOk R C L' H' ρ' σ → Step C L H L' H' → K a ρ' L' H'
  | .exc x ρ' => ∀ cls d L' H', EnvOk R C L' H' ρ' σ → Step C L H L' H' → XOk R C L' H' x cls d → W cls d σ H'
  | .bad => False
def tR (m : M Rv) : TE := fun σ H Q => ∃ C L ρ, EnvOk R C L H ρ σ ∧ RunK R W m σ H C L ρ fun r ρ' L' H' => ∀ v, RvOk R C L' H' ρ' σ v r → Q v H'
def tD (m : M D) : TE := fun σ H Q => ∃ C L ρ, EnvOk R C L H ρ σ ∧ RunK R W m σ H C L ρ fun d _ L' H' => ∀ v, Rep R (vis C L' H') d v → Q v H'
def tDs (m : M (List D)) : TA := fun σ H Q => ∃ C L ρ, EnvOk R C L H ρ σ ∧ RunK R W m σ H C L ρ fun d _ L' H' => ∀ vs, Reps R (vis C L' H') d vs → Q vs H'
def tT (m : M Bool) : TT := fun σ H Q => ∃ C L ρ, EnvOk R C L H ρ σ ∧ RunK R W m σ H C L ρ fun b _ _ H' => Q b H'
def tO (m : M (Option Int)) : TO := fun σ H Q => ∃ C L ρ, EnvOk R C L H ρ σ ∧ RunK R W m σ H C L ρ fun b _ _ H' => Q b H'
end
section
variable {R : RC} {W : WX} {C : Cc} {L : Addr → Bool} {H : Hp} {ρ : Env} {σ : L2.St}
theorem RunK.mono {α : Type} {m : M α} {K K' : α → Env → (Addr → Bool) → Hp → Prop} (h : RunK R W m σ H C L ρ K) (f : ∀ a ρ' L' H', EnvOk R C L' H' ρ' σ → Step C L H L' H' → K a ρ' L' H' → K' a ρ' L' H') : RunK R W m σ H C L ρ K' := by
  unfold RunK at h ⊢
  cases e : m ρ with
  | ok a ρ' =>
    rw [e] at h
    exact fun L' H' E S => f a ρ' L' H' E S (h L' H' E S)
  | exc x ρ' =>
    rw [e] at h
    exact h
  | bad =>
    rw [e] at h
    exact h.elim
theorem RunK.bind {α β : Type} {m : M α} {f : α → M β} {K : β → Env → (Addr → Bool) → Hp → Prop} (h : RunK R W (mbind m f) σ H C L ρ K) :
    RunK R W m σ H C L ρ fun a ρ1 L1 H1 => RunK R W (f a) σ H1 C L1 ρ1 fun b ρ2 La H2 => Step C L1 H1 La H2 → K b ρ2 La H2 := by
  unfold RunK at h ⊢
  unfold mbind at h
  cases e : m ρ with
  | ok a ρ1 =>
    rw [e] at h
    intro L1 H1 E1 S1
    show match f a ρ1 with
      | .ok b ρ2 => _
      | .exc x ρ2 => _
      | .bad => False
    have h' : match f a ρ1 with
      | .ok b ρ2 => ∀ L' H', EnvOk R C L' H' ρ2 σ → Step C L H L' H' → K b ρ2 L' H'
      | .exc x ρ2 => ∀ cls d L' H', EnvOk R C L' H' ρ2 σ → Step C L H L' H' → XOk R C L' H' x cls d → W cls d σ H'
      | .bad => False := h
    cases e2 : f a ρ1 with
    | ok b ρ2 =>
      rw [e2] at h'
      exact fun La H2 E2 S2 S2' => h' La H2 E2 (S1.trans E1 S2)
    | exc x ρ2 =>
      rw [e2] at h'
      exact fun cls d La H2 E2 S2 => h' cls d La H2 E2 (S1.trans E1 S2)
    | bad =>
      rw [e2] at h'
      exact h'.elim
  | exc x ρ1 =>
    rw [e] at h
    exact h
  | bad =>
    rw [e] at h
    exact h.elim
theorem RunK.ret {α : Type} {a : α} {K : α → Env → (Addr → Bool) → Hp → Prop} (h : RunK R W (mret a) σ H C L ρ K) : ∀ L' H', EnvOk R C L' H' ρ σ → Step C L H L' H' → K a ρ L' H' := h
theorem RunK.opt {α : Type} {o : Option α} {K : α → Env → (Addr → Bool) → Hp → Prop} (h : RunK R W (mopt o) σ H C L ρ K) : ∃ a, o = some a ∧ ∀ L' H', EnvOk R C L' H' ρ σ → Step C L H L' H' → K a ρ L' H' := by
  cases o with
  | none => exact h.elim
  | some a => exact ⟨a, rfl, h⟩
theorem RunK.nobad {α : Type} {K : α → Env → (Addr → Bool) → Hp → Prop} (h : RunK R W (mbad : M α) σ H C L ρ K) : False := h
/-- the reading of a frozen value -/
theorem tD_of {m : M Rv} {H : Hp} {Q : VK} (h : tD R W (fz m) σ H Q) : tR R W m σ H Q := by
  obtain ⟨C, L, ρ, E, h⟩ := h
  refine ⟨C, L, ρ, E, h.bind.mono fun r ρ1 L1 H1 E1 S1 k v hv => ?_⟩
  obtain ⟨La, Ea, le, lev, rp⟩ := hv.fz E1
  exact k.ret La H1 Ea ((Step.refl C L1 H1).less le) ((Step.refl C L1 H1).less le) v rp
theorem PE.imp {X : Cx} {e : Expr} {t t' : TE} (h : PE X e t) (f : ∀ σ H Q, t' σ H Q → t σ H Q) : PE X e t' := ⟨fun pins s σ H Q I q => h.run pins s σ H Q I (f σ H Q q)⟩
theorem PT.imp {X : Cx} {e : Expr} {t t' : TT} (h : PT X e t) (f : ∀ σ H Q, t' σ H Q → t σ H Q) : PT X e t' := ⟨fun pins s σ H Q I q => h.run pins s σ H Q I (f σ H Q q)⟩
theorem PA.imp {X : Cx} {e : List Expr} {t t' : TA} (h : PA X e t) (f : ∀ σ H Q, t' σ H Q → t σ H Q) : PA X e t' := ⟨fun pos pins s σ H Q I q => h.run pos pins s σ H Q I (f σ H Q q)⟩
theorem PS.imp {X : Cx} {e : Stmt} {t t' : TS} (h : PS X e t) (f : ∀ D σ H, t' D σ H → t D σ H) : PS X e t' := ⟨fun pins s σ H D I q => h.run pins s σ H D I (f D σ H q)⟩
theorem PSs.imp {X : Cx} {e : List Stmt} {t t' : TS} (h : PSs X e t) (f : ∀ D σ H, t' D σ H → t D σ H) : PSs X e t' := ⟨fun pins s σ H D I q => h.run pins s σ H D I (f D σ H q)⟩
theorem PE.fz {X : Cx} {e : Expr} {m : M Rv} (h : PE X e (tR R W m)) : PE X e (tD R W (fz m)) := PE.imp h fun _ _ _ q => tD_of q
/-- never -/
theorem PE.bad {X : Cx} {e : Expr} : PE X e (tR R W mbad) := ⟨fun _ _ _ _ _ _ ⟨_, _, _, _, h⟩ => h.elim⟩

/-! ### what may follow: a value, any later state -/
abbrev Fin (R : RC) (C : Cc) (L : Addr → Bool) (H : Hp) (ρ : Env) (σ : L2.St) (rv : Rv) (Q : VK) : Prop := ∀ L' H', EnvOk R C L' H' ρ σ → Step C L H L' H' → ∀ u, RvOk R C L' H' ρ σ u rv → Q u H'
theorem Fin.here {rv : Rv} {Q : VK} {u : V} (k : Fin R C L H ρ σ rv Q) (E : EnvOk R C L H ρ σ) (h : RvOk R C L H ρ σ u rv) : Q u H := k L H E (.refl _ _ _) u h
theorem Fin.newL {ds : List D} {vs : List V} {Q : VK} (k : Fin R C L H ρ σ (.nw ds) Q) (E : EnvOk R C L H ρ σ) (r : Reps R (vis C L H) ds vs) : ∀ p, H p = none → Q (.ref p) (upd H p (.lst vs)) := fun p np => by
  obtain ⟨E', S', rv⟩ := E.newL np r
  exact k _ _ E' S' _ rv
theorem Fin.newT {ds : List D} {vs : List V} {Q : VK} (k : Fin R C L H ρ σ (.im (.tup ds)) Q) (E : EnvOk R C L H ρ σ) (r : Reps R (vis C L H) ds vs) : ∀ p, H p = none → Q (.ref p) (upd H p (.tup vs)) := fun p np => by
  have st : Step C L H L (upd H p (.tup vs)) := step_grow (.new np)
  exact k _ _ (E.new np) st _ ⟨p, vs, rfl, .inl (.inl (E.visNew np)), r.le st.vis⟩
theorem rep_lst {ds : List D} {v : V} (h : Rep R (vis C L H) (.lst ds) v) : ∃ a vs, v = .ref a ∧ H a = some (.lst vs) ∧ Reps R (vis C L H) ds vs := by
  obtain ⟨a, vs, e, s, r⟩ := h
  exact ⟨a, vs, e, vis_le _ _ _ _ _ s, r⟩
theorem rep_rol {ds : List D} {v : V} (h : Rep R (vis C L H) (.rol ds) v) : ∃ a vs, v = .ref a ∧ SqL R.K H a vs ∧ Reps R (vis C L H) ds vs := by
  obtain ⟨a, vs, e, s, r⟩ := h
  exact ⟨a, vs, e, le_l (vis_le _ _ _) s, r⟩
theorem rep_tup {ds : List D} {v : V} (h : Rep R (vis C L H) (.tup ds) v) : ∃ a vs, v = .ref a ∧ SqT R.K H a vs ∧ Reps R (vis C L H) ds vs := by
  obtain ⟨a, vs, e, s, r⟩ := h
  exact ⟨a, vs, e, le_t (vis_le _ _ _) s, r⟩
end

end Pu
/-! Pu, part 4: operators and built-ins. -/
namespace Pu
open PySem PySem.Spec PyProof.Rows L2

/-- a two-place rule does what the data function says -/
def R2Ok (R : RC) (r : R2) (den : D → D → Option Rv) : Prop :=
  ∀ (C : Cc) (L : Addr → Bool) (H : Hp) (ρ : Env) (σ : L2.St) (x y : D) (v w : V) (rv : Rv) (Q : VK), EnvOk R C L H ρ σ → Rep R (vis C L H) x v → Rep R (vis C L H) y w → den x y = some rv → Fin R C L H ρ σ rv Q → r v w H Q
section
variable {R : RC} {W : WX} {X : Cx} {a b c : Expr} {ma mb mc : M D} {pos : Pos}
theorem t2_of {r : R2} {den : D → D → Option Rv} (hr : R2Ok R r den) {σ : L2.St} {H : Hp} {Q : VK} (h : tR R W (mbind ma fun x => mbind mb fun y => mopt (den x y)) σ H Q) : tOp r (tD R W ma) (tD R W mb) σ H Q := by
  obtain ⟨C, L, ρ, E, h⟩ := h
  refine ⟨C, L, ρ, E, h.bind.mono fun x ρ1 L1 H1 E1 S1 k v hv => ?_⟩
  refine ⟨C, L1, ρ1, E1, k.bind.mono fun y ρ2 La H2 E2 S2 k2 w hw => ?_⟩
  obtain ⟨rv, e, k3⟩ := k2.opt
  refine hr C La H2 ρ2 σ x y v w rv Q E2 (Rep.le S2.vis _ _ hv) hw e fun L3 H3 E3 S3 u hu => ?_
  exact k3 L3 H3 E3 S3 S3 (S2.trans E2 S3) u hu
theorem pe_op2 {op : Operator} {r : R2} {den : D → D → Option Rv} (ho : OpR X (binaryOp op) r) (hr : R2Ok R r den) (ha : PE X a (tD R W ma)) (hb : PE X b (tD R W mb)) :
    PE X (.BinOp a op b pos) (tR R W (mbind ma fun x => mbind mb fun y => mopt (den x y))) := PE.imp (pe_op ho ha hb) fun _ _ _ h => t2_of hr h
theorem pe_cmp2 {op : CmpOp} {r : R2} {den : D → D → Option Rv} (ho : OpR X (compareOp op) r) (hr : R2Ok R r den) (ha : PE X a (tD R W ma)) (hb : PE X b (tD R W mb)) (hm : behindInMarks op b = false) :
    PE X (.Compare a [op] [b] pos) (tR R W (mbind ma fun x => mbind mb fun y => mopt (den x y))) := PE.imp (pe_cmpR ho ha hb hm) fun _ _ _ h => t2_of hr h
/-- as a test -/
theorem pt_cmp2 {op : CmpOp} {r : R2} {den : D → D → Option Bool} (ho : OpR X (compareOp op) r) (hr : R2Ok R r fun x y => (den x y).map fun t => .im (.bl t)) (ha : PE X a (tD R W ma)) (hb : PE X b (tD R W mb)) (hm : behindInMarks op b = false) :
    PT X (.Compare a [op] [b] pos) (tT R W (mbind ma fun x => mbind mb fun y => mopt (den x y))) := by
  refine PT.imp (pt_cmpR ho ha hb hm) fun σ H Q h => ?_
  refine t2_of (den := fun x y => (den x y).map fun t => .im (.bl t)) hr (W := W) (ma := ma) (mb := mb) (σ := σ) (H := H) ?_
  obtain ⟨C, L, ρ, E, h⟩ := h
  refine ⟨C, L, ρ, E, ?_⟩
  unfold RunK mbind at h ⊢
  cases e1 : ma ρ with
  | bad => rw [e1] at h; exact h.elim
  | exc x ρ' => rw [e1] at h; exact h
  | ok x ρ1 =>
    simp only [e1] at h ⊢
    cases e2 : mb ρ1 with
    | bad => rw [e2] at h; exact h.elim
    | exc x ρ' => rw [e2] at h; exact h
    | ok y ρ2 =>
      simp only [e2] at h ⊢
      cases e3 : den x y with
      | none => rw [e3] at h; exact h.elim
      | some k =>
        rw [e3] at h
        refine fun L' H' E' S' v hv => ⟨k, hv, h L' H' E' S'⟩
theorem R2Ok.int {g : Int → Int → Int} : R2Ok R (rI0 fun i j => .int (g i j)) fun x y => match x, y with
    | .int i, .int j => some (.im (.int (g i j)))
    | _, _ => none := fun C L H ρ σ x y v w rv Q E hv hw e k => by
  cases x <;> cases y <;> cases e
  cases hv
  cases hw
  exact ⟨_, _, rfl, rfl, k.here E rfl⟩
theorem ok_add : R2Ok R (fun x y H Q => (rI0 fun i j => .int (i + j)) x y H Q ∨ (rCat x y H Q ∨ rCatA R.K x y H Q)) B2.add.den := fun C L H ρ σ x y v w rv Q E hv hw e k => by
  cases x with
  | int i =>
    cases y <;> cases e
    cases hv
    cases hw
    exact .inl ⟨_, _, rfl, rfl, k.here E rfl⟩
  | lst xs =>
    cases y with
    | lst ys =>
      obtain ⟨p, vs, e1, hp, r1⟩ := rep_lst hv
      obtain ⟨q, ws, e2, hq, r2⟩ := rep_lst hw
      have e' : (if xs.length + ys.length ≤ sizeLine then some (Rv.nw (xs ++ ys)) else none) = some rv := e
      split at e'
      · rename_i hz
        cases e'
        exact .inr (.inl ⟨p, q, vs, ws, e1, e2, hp, hq, by rw [r1.length, r2.length]; exact hz, k.newL E (r1.append r2)⟩)
      · cases e'
    | _ => cases e
  | tup xs =>
    cases y with
    | tup ys =>
      obtain ⟨p, vs, e1, hp, r1⟩ := rep_tup hv
      obtain ⟨q, ws, e2, hq, r2⟩ := rep_tup hw
      have e' : (if xs.length + ys.length ≤ sizeLine then some (Rv.im (.tup (xs ++ ys))) else none) = some rv := e
      split at e'
      · rename_i hz
        cases e'
        refine .inr (.inr ⟨p, q, vs, ws, e1, e2, hp, hq, by rw [r1.length, r2.length]; exact hz, fun z => ?_, fun _ z => ?_, fun _ _ => k.newT E (r1.append r2)⟩)
        · subst z
          have := r1.length
          cases xs with
          | cons _ _ => simp at this
          | nil =>
            refine k.here E ?_
            rw [e2] at hw
            exact hw
        · subst z
          have := r2.length
          cases ys with
          | cons _ _ => simp at this
          | nil =>
            refine k.here E ?_
            rw [List.append_nil]
            rw [e1] at hv
            exact hv
      · cases e'
    | _ => cases e
  | _ => cases y <;> cases e
theorem ok_sub : R2Ok R (rI0 fun i j => .int (i - j)) B2.sub.den := fun C L H ρ σ x y v w rv Q E hv hw e k => by
  cases x <;> cases y <;> cases e
  cases hv
  cases hw
  exact ⟨_, _, rfl, rfl, k.here E rfl⟩
theorem ok_mul : R2Ok R (fun x y H Q => (rI CMul fun i j => .int (i * j)) x y H Q ∨ rRep x y H Q) B2.mul.den := fun C L H ρ σ x y v w rv Q E hv hw e k => by
  cases x with
  | int i =>
    cases y with
    | int j =>
      cases hv
      cases hw
      have e' : (if (-(2 ^ 64) < i ∧ i < 2 ^ 64) ∨ (-(2 ^ 64) < j ∧ j < 2 ^ 64) then some (Rv.im (.int (i * j))) else none) = some rv := e
      split at e'
      · rename_i hz
        cases e'
        exact .inl ⟨_, _, rfl, rfl, hz, k.here E rfl⟩
      · cases e'
    | _ => cases e
  | lst xs =>
    cases y with
    | int j =>
      obtain ⟨p, vs, e1, hp, r1⟩ := rep_lst hv
      cases hw
      have e' : (if -(2 ^ 63) ≤ j ∧ j < 2 ^ 63 ∧ xs.length * j.toNat ≤ sizeLine then some (Rv.nw (List.replicate j.toNat xs).flatten) else none) = some rv := e
      split at e'
      · rename_i hz
        cases e'
        exact .inr ⟨p, j, vs, e1, rfl, hp, hz.1, hz.2.1, by rw [r1.length]; exact hz.2.2, k.newL E (r1.flat _)⟩
      · cases e'
    | _ => cases e
  | _ => cases y <;> cases e
theorem ok_fdiv : R2Ok R (rI CDiv fun i j => .int (i / j)) B2.fdiv.den := fun C L H ρ σ x y v w rv Q E hv hw e k => by
  cases x with
  | int i =>
    cases y with
    | int j =>
      cases hv
      cases hw
      have e' : (if 0 < j ∧ j < 1073741824 then some (Rv.im (.int (i / j))) else none) = some rv := e
      split at e'
      · rename_i hz
        cases e'
        exact ⟨_, _, rfl, rfl, hz, k.here E rfl⟩
      · cases e'
    | _ => cases e
  | _ => cases y <;> cases e
theorem ok_mod : R2Ok R (rI (fun _ j => 0 < j) fun i j => .int (i % j)) B2.mod.den := fun C L H ρ σ x y v w rv Q E hv hw e k => by
  cases x with
  | int i =>
    cases y with
    | int j =>
      cases hv
      cases hw
      have e' : (if 0 < j then some (Rv.im (.int (i % j))) else none) = some rv := e
      split at e'
      · rename_i hz
        cases e'
        exact ⟨_, _, rfl, rfl, hz, k.here E rfl⟩
      · cases e'
    | _ => cases e
  | _ => cases y <;> cases e
theorem ok_pow : R2Ok R (rI CPow fun i j => .int (i ^ j.toNat)) B2.pow.den := fun C L H ρ σ x y v w rv Q E hv hw e k => by
  cases x with
  | int i =>
    cases y with
    | int j =>
      cases hv
      cases hw
      have e' : (if 0 ≤ j ∧ j ≤ 1000000 ∧ i.natAbs < 2 ^ 64 then some (Rv.im (.int (i ^ j.toNat))) else none) = some rv := e
      split at e'
      · rename_i hz
        cases e'
        exact ⟨_, _, rfl, rfl, hz, k.here E rfl⟩
      · cases e'
    | _ => cases e
  | _ => cases y <;> cases e
/-- a binary operator -/
theorem pe_b2 (hK : X.K = R.K) {o : B2} (ha : PE X a (tD R W ma)) (hb : PE X b (tD R W mb)) : PE X (.BinOp a o.op b pos) (tR R W (mbind ma fun x => mbind mb fun y => mopt (o.den x y))) := by
  cases o with
  | add => exact pe_op2 (op_add.or (op_cat.or (by rw [← hK]; exact op_catA))) ok_add ha hb
  | sub => exact pe_op2 op_sub ok_sub ha hb
  | mul => exact pe_op2 (op_mul.or op_rep) ok_mul ha hb
  | fdiv => exact pe_op2 op_fdiv ok_fdiv ha hb
  | mod => exact pe_op2 op_mod ok_mod ha hb
  | pow => exact pe_op2 op_pow ok_pow ha hb

/-! ### comparisons -/
mutual
theorem Rep.dp {H : Hp} : ∀ (d : D) (v : V) (y : PyData), Rep R H d v → d.py = some y → Dp R.K H v y
  | .non, v, y, h, e => by cases h; cases e; exact .non
  | .bl b, v, y, h, e => by cases h; cases e; exact .bl b
  | .int b, v, y, h, e => by cases h; cases e; exact .int b
  | .str b, v, y, h, e => by cases h; cases e; exact .str b
  | .fn _, v, y, h, e => by cases e
  | .tup xs, v, y, h, e => by
    obtain ⟨a, vs, rfl, s, r⟩ := h
    unfold D.py at e
    cases q : D.pys xs with
    | none => rw [q] at e; cases e
    | some ys =>
      rw [q] at e
      cases e
      exact .tup s (Reps.dp xs vs ys r q)
  | .lst xs, v, y, h, e => by
    obtain ⟨a, vs, rfl, s, r⟩ := h
    unfold D.py at e
    cases q : D.pys xs with
    | none => rw [q] at e; cases e
    | some ys =>
      rw [q] at e
      cases e
      exact .lst (.inl (.inl s)) (Reps.dp xs vs ys r q)
  | .rol xs, v, y, h, e => by
    obtain ⟨a, vs, rfl, s, r⟩ := h
    unfold D.py at e
    cases q : D.pys xs with
    | none => rw [q] at e; cases e
    | some ys =>
      rw [q] at e
      cases e
      exact .lst s (Reps.dp xs vs ys r q)
theorem Reps.dp {H : Hp} : ∀ (ds : List D) (vs : List V) (ys : List PyData), Reps R H ds vs → D.pys ds = some ys → DpAll R.K H vs ys
  | [], vs, ys, h, e => by
    have e1 : vs = [] := h
    subst e1
    cases e
    exact .nil
  | d :: ds, vs, ys, h, e => by
    obtain ⟨v, r, rfl, h1, h2⟩ := h
    unfold D.pys at e
    cases q : D.py d with
    | none => rw [q] at e; cases e
    | some y =>
      cases q2 : D.pys ds with
      | none => rw [q, q2] at e; cases e
      | some ys' =>
        rw [q, q2] at e
        cases e
        exact .cons (Rep.dp d v y h1 q) (Reps.dp ds r ys' h2 q2)
end
theorem rep_le {C : Cc} {L : Addr → Bool} {H : Hp} {d : D} {v : V} (h : Rep R (vis C L H) d v) : Rep R H d v := Rep.le (vis_le _ _ _) _ _ h
theorem eq_of {C : Cc} {L : Addr → Bool} {H : Hp} {x y : D} {v w : V} {k : Bool} {Q : VK} (hv : Rep R (vis C L H) x v) (hw : Rep R (vis C L H) y w) (e : x.eq? y = some k) (q : ∀ k', k' = k → Q (.bl k') H) : rEq v w H Q ∨ rEqD R.K v w H Q := by
  have gen : (match x.py, y.py with
    | some d, some e => if SeqAt.shaped d = true ∧ SeqAt.shaped e = true then some (PyData.eqv d e) else none
    | _, _ => none) = some k → rEq v w H Q ∨ rEqD R.K v w H Q := fun e => by
    cases q1 : x.py with
    | none => rw [q1] at e; cases e
    | some d =>
      cases q2 : y.py with
      | none => rw [q1, q2] at e; cases e
      | some d' =>
        rw [q1, q2] at e
        simp only at e
        split at e
        · rename_i hz
          cases e
          exact .inr ⟨d, d', Rep.dp _ _ _ (rep_le hv) q1, Rep.dp _ _ _ (rep_le hw) q2, hz.1, hz.2, q _ rfl⟩
        · cases e
  have ii : ∀ {i j : Int}, decide (V.int i = V.int j) = decide (i = j) := fun {i j} => by by_cases h : i = j <;> simp [h]
  have bb : ∀ {i j : Bool}, decide (V.bl i = V.bl j) = decide (i = j) := fun {i j} => by by_cases h : i = j <;> simp [h]
  have ss : ∀ {i j : Str}, decide (V.str i = V.str j) = decide (i = j) := fun {i j} => by by_cases h : i = j <;> simp [h]
  cases x <;> cases y <;> first
    | (cases hv; cases hw; cases e; exact .inl ⟨rfl, q _ ii⟩)
    | (cases hv; cases hw; cases e; exact .inl ⟨rfl, q _ bb⟩)
    | (cases hv; cases hw; cases e; exact .inl ⟨rfl, q _ ss⟩)
    | (cases hv; cases hw; cases e; exact .inl ⟨rfl, q _ rfl⟩)
    | exact gen e
theorem ok_eq : R2Ok R (fun x y H Q => rEq x y H Q ∨ rEqD R.K x y H Q) fun x y => (C2.eq.den x y).map fun t => .im (.bl t) := fun C L H ρ σ x y v w rv Q E hv hw e k => by
  have e' : (x.eq? y).map (fun t => Rv.im (.bl t)) = some rv := e
  cases q : x.eq? y with
  | none => rw [q] at e'; cases e'
  | some t =>
    rw [q] at e'
    cases e'
    exact eq_of hv hw q fun k' z => by subst z; exact k.here E rfl
theorem ok_ne : R2Ok R (fun x y H Q => rNe x y H Q ∨ rNeD R.K x y H Q) fun x y => (C2.ne.den x y).map fun t => .im (.bl t) := fun C L H ρ σ x y v w rv Q E hv hw e k => by
  have e' : ((x.eq? y).map (!·)).map (fun t => Rv.im (.bl t)) = some rv := e
  cases q : x.eq? y with
  | none => rw [q] at e'; cases e'
  | some t =>
    rw [q] at e'
    cases e'
    have h := eq_of (Q := fun u _ => ∀ t', u = .bl t' → Q (.bl (!t')) H) hv hw q fun k' z t' hz => by cases hz; subst z; exact k.here E rfl
    rcases h with ⟨h1, h2⟩ | ⟨d, e, h1, h2, h3, h4, h5⟩
    · exact .inl ⟨h1, h2 _ rfl⟩
    · exact .inr ⟨d, e, h1, h2, h3, h4, h5 _ rfl⟩
theorem ok_cmp {g : Int → Int → Bool} {den : D → D → Option Bool} (hd : ∀ x y, den x y = match x, y with | .int i, .int j => some (g i j) | _, _ => none) : R2Ok R (rI0 fun i j => .bl (g i j)) fun x y => (den x y).map fun t => .im (.bl t) :=
  fun C L H ρ σ x y v w rv Q E hv hw e k => by
  simp only [hd] at e
  cases x <;> cases y <;> cases e
  cases hv
  cases hw
  exact ⟨_, _, rfl, rfl, k.here E rfl⟩
theorem non_iff {H : Hp} {x : D} {v : V} (h : Rep R H x v) : decide (v = .non) = (match x with | .non => true | _ => false) := by
  cases x with
  | non => cases h; rfl
  | bl b => cases h; rfl
  | int b => cases h; rfl
  | str b => cases h; rfl
  | tup xs => obtain ⟨a, vs, rfl, _⟩ := h; rfl
  | lst xs => obtain ⟨a, vs, rfl, _⟩ := h; rfl
  | rol xs => obtain ⟨a, vs, rfl, _⟩ := h; rfl
  | fn k => obtain ⟨f, rfl, _⟩ := h; rfl
def isNonD : D → Bool
  | .non => true
  | _ => false
theorem nonD_iff {H : Hp} {x : D} {v : V} (h : Rep R H x v) : decide (v = .non) = isNonD x := (non_iff h).trans (by cases x <;> rfl)
theorem is_den {x y : D} {rv : Rv} {g : Bool → Bool} {den : D → D → Option Bool} (h1 : ∀ x, den x .non = some (g (isNonD x))) (h2 : ∀ a b, den (.bl a) (.bl b) = some (g (decide (a = b)))) (h3 : ∀ x y, y ≠ .non → (∀ a b, ¬ (x = .bl a ∧ y = .bl b)) → den x y = none) (e : (den x y).map (fun t => Rv.im (.bl t)) = some rv) :
    (y = .non ∧ rv = .im (.bl (g (isNonD x)))) ∨ ∃ a b, x = .bl a ∧ y = .bl b ∧ rv = .im (.bl (g (decide (a = b)))) := by
  by_cases hy : y = .non
  · subst hy
    rw [h1] at e
    cases e
    exact .inl ⟨rfl, rfl⟩
  · by_cases hb : ∃ a b, x = .bl a ∧ y = .bl b
    · obtain ⟨a, b, rfl, rfl⟩ := hb
      rw [h2] at e
      cases e
      exact .inr ⟨a, b, rfl, rfl, rfl⟩
    · rw [h3 x y hy fun a b z => hb ⟨a, b, z⟩] at e
      cases e
theorem ok_is : R2Ok R (fun x y H Q => (y = .non ∧ Q (.bl (decide (x = .non))) H) ∨ rIsB x y H Q) fun x y => (C2.is.den x y).map fun t => .im (.bl t) := fun C L H ρ σ x y v w rv Q E hv hw e k => by
  rcases is_den (g := fun b => b) (den := C2.is.den) (fun x => by cases x <;> rfl) (fun a b => rfl) (fun x y n m => by cases x <;> cases y <;> first | rfl | exact absurd rfl n | exact absurd ⟨rfl, rfl⟩ (m _ _)) e with ⟨rfl, rfl⟩ | ⟨a, b, rfl, rfl, rfl⟩
  · cases hw
    refine .inl ⟨rfl, ?_⟩
    rw [nonD_iff hv]
    exact k.here E rfl
  · cases hv
    cases hw
    exact .inr ⟨a, b, rfl, rfl, k.here E rfl⟩
theorem ok_isn : R2Ok R (fun x y H Q => (y = .non ∧ Q (.bl (!decide (x = .non))) H) ∨ rNotB x y H Q) fun x y => (C2.isn.den x y).map fun t => .im (.bl t) := fun C L H ρ σ x y v w rv Q E hv hw e k => by
  rcases is_den (g := fun b => !b) (den := C2.isn.den) (fun x => by cases x <;> rfl) (fun a b => rfl) (fun x y n m => by cases x <;> cases y <;> first | rfl | exact absurd rfl n | exact absurd ⟨rfl, rfl⟩ (m _ _)) e with ⟨rfl, rfl⟩ | ⟨a, b, rfl, rfl, rfl⟩
  · cases hw
    refine .inl ⟨rfl, ?_⟩
    rw [nonD_iff hv]
    exact k.here E rfl
  · cases hv
    cases hw
    exact .inr ⟨a, b, rfl, rfl, k.here E rfl⟩
theorem flat_rep {H : Hp} {x : D} {v : V} (h : Rep R H x v) (f : x.flat = true) : flatV v = true := by
  cases x <;> first | (cases h; rfl) | cases f
theorem flats_rep {H : Hp} : ∀ {xs : List D} {vs : List V}, Reps R H xs vs → xs.all D.flat = true → vs.all flatV = true
  | [], vs, h, _ => by have e : vs = [] := h; subst e; rfl
  | x :: xs, vs, h, f => by
    obtain ⟨v, r, rfl, h1, h2⟩ := h
    rw [List.all_cons, Bool.and_eq_true] at f
    rw [List.all_cons, flat_rep h1 f.1, flats_rep h2 f.2]
    rfl
theorem feq_rep {H : Hp} {x y : D} {v w : V} (h : Rep R H x v) (h2 : Rep R H y w) (f : x.flat = true) (f2 : y.flat = true) : eqV v w = x.feq y := by
  cases x <;> first | exact Bool.noConfusion f | (cases y <;> first | exact Bool.noConfusion f2 | (cases h; cases h2; rfl))
theorem in_rep {H : Hp} {x : D} {v : V} (h : Rep R H x v) (f : x.flat = true) : ∀ {xs : List D} {vs : List V}, Reps R H xs vs → xs.all D.flat = true → inV v vs = xs.any fun y => y.feq x
  | [], vs, h, _ => by have e : vs = [] := h; subst e; rfl
  | y :: xs, vs, hh, g => by
    obtain ⟨w, r, rfl, h1, h2⟩ := hh
    rw [List.all_cons, Bool.and_eq_true] at g
    have ih := in_rep h f h2 g.2
    unfold inV at ih ⊢
    rw [List.any_cons, List.any_cons, ih, feq_rep h1 h g.1 f]
theorem ok_in {neg : Bool} {den : D → D → Option Bool} (hd : ∀ x y, den x y = match y with
    | .tup ys => if x.flat = true ∧ ys.all D.flat = true then some (if neg then !ys.any fun y => y.feq x else ys.any fun y => y.feq x) else none
    | .lst ys => if x.flat = true ∧ ys.all D.flat = true then some (if neg then !ys.any fun y => y.feq x else ys.any fun y => y.feq x) else none
    | _ => none) : R2Ok R (rIn R.K neg) fun x y => (den x y).map fun t => .im (.bl t) := fun C L H ρ σ x y v w rv Q E hv hw e k => by
  simp only [hd] at e
  cases y with
  | tup ys =>
    simp only at e
    split at e
    · rename_i hz
      cases e
      obtain ⟨p, vs, rfl, hp, r⟩ := rep_tup hw
      exact ⟨p, vs, rfl, .inr hp, flat_rep hv hz.1, flats_rep r hz.2, k.here E (by rw [in_rep hv hz.1 r hz.2]; cases neg <;> rfl)⟩
    · cases e
  | lst ys =>
    simp only at e
    split at e
    · rename_i hz
      cases e
      obtain ⟨p, vs, rfl, hp, r⟩ := rep_lst hw
      exact ⟨p, vs, rfl, .inl (.inl (.inl hp)), flat_rep hv hz.1, flats_rep r hz.2, k.here E (by rw [in_rep hv hz.1 r hz.2]; cases neg <;> rfl)⟩
    · cases e
  | _ => cases e
/-- each comparison has a rule -/
theorem cmp_rule (hK : X.K = R.K) (hu : X.A.units + 64 < cLine) (o : C2) : ∃ r, OpR X (compareOp o.op) r ∧ R2Ok R r fun x y => (o.den x y).map fun t => .im (.bl t) := by
  cases o with
  | eq => exact ⟨_, op_eq.or (by rw [← hK]; exact op_eqD hu), ok_eq⟩
  | ne => exact ⟨_, op_ne.or (by rw [← hK]; exact op_neD hu), ok_ne⟩
  | lt => exact ⟨_, op_lt, ok_cmp fun x y => by cases x <;> cases y <;> rfl⟩
  | le => exact ⟨_, op_le, ok_cmp fun x y => by cases x <;> cases y <;> rfl⟩
  | gt => exact ⟨_, op_gt, ok_cmp fun x y => by cases x <;> cases y <;> rfl⟩
  | ge => exact ⟨_, op_ge, ok_cmp fun x y => by cases x <;> cases y <;> rfl⟩
  | is => exact ⟨_, op_isN.or op_isBl, ok_is⟩
  | isn => exact ⟨_, op_notN.or op_notBl, ok_isn⟩
  | mem => exact ⟨rIn R.K false, by rw [← hK]; exact op_in_seq, ok_in fun x y => by cases x <;> cases y <;> rfl⟩
  | nin => exact ⟨rIn R.K true, by rw [← hK]; exact op_notIn_seq, ok_in fun x y => by cases x <;> cases y <;> rfl⟩
theorem pe_c2 (hK : X.K = R.K) (hu : X.A.units + 64 < cLine) {o : C2} (ha : PE X a (tD R W ma)) (hb : PE X b (tD R W mb)) (hm : behindInMarks o.op b = false) :
    PE X (.Compare a [o.op] [b] pos) (tR R W (mbind ma fun x => mbind mb fun y => mopt ((o.den x y).map fun t => .im (.bl t)))) := by
  obtain ⟨r, h1, h2⟩ := cmp_rule (R := R) hK hu o
  exact pe_cmp2 h1 h2 ha hb hm
theorem pt_c2 (hK : X.K = R.K) (hu : X.A.units + 64 < cLine) {o : C2} (ha : PE X a (tD R W ma)) (hb : PE X b (tD R W mb)) (hm : behindInMarks o.op b = false) :
    PT X (.Compare a [o.op] [b] pos) (tT R W (mbind ma fun x => mbind mb fun y => mopt (o.den x y))) := by
  obtain ⟨r, h1, h2⟩ := cmp_rule (R := R) hK hu o
  exact pt_cmp2 h1 h2 ha hb hm
end
end Pu
/-! Pu, part 5: names, displays, subscripts, tests, built-ins. -/
namespace Pu
open PySem PySem.Spec PyProof.Rows L2

section
variable {R : RC} {W : WX} {C : Cc} {L : Addr → Bool} {H : Hp} {ρ : Env} {σ : L2.St}
/-- a slot becomes a value's, or is forgotten -/
theorem EnvOk.put (E : EnvOk R C L H ρ σ) (i : Nat) (s : Sl) (h : SlOk R C L H i (slAt σ i) s) (n1 : ∀ xs, s ≠ .ow xs) (n2 : ∀ xs, s ≠ .io xs) : EnvOk R C L H (ρ.set i s) σ := by
  have get : ∀ j t, (ρ.set i s)[j]? = some t → (j = i ∧ t = s) ∨ (j ≠ i ∧ ρ[j]? = some t) := fun j t hj => by
    by_cases e : i = j
    · subst e
      by_cases hl : i < ρ.length
      · rw [List.getElem?_set_self hl] at hj
        cases hj
        exact .inl ⟨rfl, rfl⟩
      · rw [List.getElem?_eq_none (by simpa using hl)] at hj
        cases hj
    · rw [List.getElem?_set_ne e] at hj
      exact .inr ⟨fun z => e z.symm, hj⟩
  refine ⟨by rw [List.length_set, E.len], fun j t hj => ?_, fun j k xs ys hjk h1 h2 => ?_, fun j k xs ys hjk h1 h2 => ?_, E.fr, E.o0, E.pr, E.lv⟩
  · rcases get j t hj with ⟨rfl, rfl⟩ | ⟨_, q⟩
    · exact h
    · exact E.sl j t q
  · rcases get j _ h1 with ⟨_, q⟩ | ⟨_, q1⟩
    · exact absurd q.symm (n1 _)
    · rcases get k _ h2 with ⟨_, q⟩ | ⟨_, q2⟩
      · exact absurd q.symm (n1 _)
      · exact E.inj j k xs ys hjk q1 q2
  · rcases get j _ h1 with ⟨_, q⟩ | ⟨_, q1⟩
    · exact absurd q.symm (n2 _)
    · rcases get k _ h2 with ⟨_, q⟩ | ⟨_, q2⟩
      · exact absurd q.symm (n2 _)
      · exact E.ioj j k xs ys hjk q1 q2
/-- a name is stored -/
theorem EnvOk.store (E : EnvOk R C L H ρ σ) (i : Nat) (v : V) (r : Rv) (h : RvOk R C L H ρ σ v r) : EnvOk R C L H (ρ.set i r.sl) (σ.set i (some v)) := by
  have get : ∀ j t, (ρ.set i r.sl)[j]? = some t → (j = i ∧ t = r.sl ∧ i < ρ.length) ∨ (j ≠ i ∧ ρ[j]? = some t) := fun j t hj => by
    by_cases e : i = j
    · subst e
      by_cases hl : i < ρ.length
      · rw [List.getElem?_set_self hl] at hj
        cases hj
        exact .inl ⟨rfl, rfl, hl⟩
      · rw [List.getElem?_eq_none (by simpa using hl)] at hj
        cases hj
    · rw [List.getElem?_set_ne e] at hj
      exact .inr ⟨fun z => e z.symm, hj⟩
  have at1 : i < ρ.length → slAt (σ.set i (some v)) i = some v := fun hl => by
    unfold slAt
    rw [List.getElem?_set_self (by rw [← E.len]; exact hl)]
    rfl
  have at2 : ∀ j, j ≠ i → slAt (σ.set i (some v)) j = slAt σ j := fun j hj => by
    unfold slAt
    rw [List.getElem?_set_ne (fun z => hj z.symm)]
  refine ⟨by rw [List.length_set, List.length_set, E.len], fun j t hj => ?_, fun j k xs ys hjk h1 h2 => ?_, fun j k xs ys hjk h1 h2 => ?_, E.fr, E.o0, E.pr, E.lv⟩
  · rcases get j t hj with ⟨rfl, rfl, hl⟩ | ⟨hne, q⟩
    · rw [at1 hl]
      cases r with
      | im d => exact ⟨v, rfl, h⟩
      | nw ds =>
        obtain ⟨p, vs, e1, l, hp, rr, _⟩ := h
        exact ⟨p, vs, by rw [e1], l, hp, rr⟩
    · rw [at2 j hne]
      exact E.sl j t q
  · have key : ∀ j k xs ys, j ≠ k → (j = i ∧ Sl.ow xs = r.sl ∧ i < ρ.length) → (k ≠ i ∧ ρ[k]? = some (.ow ys)) → slAt (σ.set i (some v)) j ≠ slAt (σ.set i (some v)) k := fun j k xs ys _ ⟨ej, er, hl⟩ ⟨hk, q⟩ => by
      subst ej
      rw [at1 hl, at2 k hk]
      cases r with
      | im d => cases er
      | nw ds =>
        obtain ⟨p, vs, e1, _, _, _, ns⟩ := h
        rw [e1]
        exact fun z => ns k ys q z.symm
    rcases get j _ h1 with q1 | q1 <;> rcases get k _ h2 with q2 | q2
    · exact absurd (q1.1.trans q2.1.symm) hjk
    · exact key j k xs ys hjk q1 q2
    · exact fun z => key k j ys xs hjk.symm q2 q1 z.symm
    · rw [at2 j q1.1, at2 k q2.1]
      exact E.inj j k xs ys hjk q1.2 q2.2
  · rcases get j _ h1 with ⟨_, q, _⟩ | ⟨_, q1⟩
    · cases r <;> cases q
    · rcases get k _ h2 with ⟨_, q, _⟩ | ⟨_, q2⟩
      · cases r <;> cases q
      · exact E.ioj j k xs ys hjk q1 q2
theorem set_noow {i : Nat} {a : Addr} (E : EnvOk R C L H ρ σ) {xs : List D} (hi : ρ[i]? = some (.ow xs)) (ha : slAt σ i = some (.ref a)) : ∀ j ys, (ρ.set i .no)[j]? = some (.ow ys) → slAt σ j ≠ some (.ref a) := fun j ys hj z => by
  by_cases e : i = j
  · subst e
    have hl : i < ρ.length := (List.getElem?_eq_some_iff.mp hi).1
    rw [List.getElem?_set_self hl] at hj
    cases hj
  · rw [List.getElem?_set_ne e] at hj
    exact E.inj i j xs ys e hi hj (ha.trans z.symm)
theorem run_rd {i : Nat} {K : Rv → Env → (Addr → Bool) → Hp → Prop} (E : EnvOk R C L H ρ σ) (h : RunK R W (rd i) σ H C L ρ K) :
    ∃ x r ρ' L', σ[i]? = some (some x) ∧ EnvOk R C L' H ρ' σ ∧ Step C L H L' H ∧ RvOk R C L' H ρ' σ x r ∧ K r ρ' L' H := by
  unfold RunK rd at h
  cases e : ρ[i]? with
  | none => rw [e] at h; exact h.elim
  | some s =>
    rw [e] at h
    cases s with
    | no => exact h.elim
    | io xs => exact h.elim
    | im d =>
      obtain ⟨x, e1, r⟩ := E.sl i _ e
      exact ⟨x, .im d, ρ, L, slAt_some e1, E, .refl _ _ _, r, h L H E (.refl _ _ _)⟩
    | ow xs =>
      obtain ⟨a, vs, e1, l, ha, r⟩ := E.sl i _ e
      have E1 := E.put i .no trivial (fun _ z => by cases z) (fun _ z => by cases z)
      obtain ⟨E2, ev, q⟩ := E1.free l ha r (set_noow E e e1)
      have E3 := E2.put i (.im (.lst xs)) ⟨.ref a, e1, q⟩ (fun _ z => by cases z) (fun _ z => by cases z)
      rw [List.set_set] at E3
      have S : Step C L H (subL L a) H := (Step.refl C L H).sub a
      exact ⟨.ref a, .im (.lst xs), _, _, slAt_some e1, E3, S, q, h _ _ E3 S⟩
theorem run_mvd {i : Nat} {K : Rv → Env → (Addr → Bool) → Hp → Prop} (E : EnvOk R C L H ρ σ) (h : RunK R W (mvd i) σ H C L ρ K) :
    ∃ x r ρ' L', σ[i]? = some (some x) ∧ EnvOk R C L' H ρ' σ ∧ Step C L H L' H ∧ RvOk R C L' H ρ' σ x r ∧ K r ρ' L' H := by
  unfold RunK mvd at h
  cases e : ρ[i]? with
  | none => rw [e] at h; exact h.elim
  | some s =>
    rw [e] at h
    cases s with
    | no => exact h.elim
    | io xs => exact h.elim
    | im d =>
      obtain ⟨x, e1, r⟩ := E.sl i _ e
      exact ⟨x, .im d, ρ, L, slAt_some e1, E, .refl _ _ _, r, h L H E (.refl _ _ _)⟩
    | ow xs =>
      obtain ⟨a, vs, e1, l, ha, r⟩ := E.sl i _ e
      have E1 := E.put i .no trivial (fun _ z => by cases z) (fun _ z => by cases z)
      exact ⟨.ref a, .nw xs, _, _, slAt_some e1, E1, .refl _ _ _, ⟨a, vs, rfl, l, ha, r, set_noow E e e1⟩, h _ _ E1 (.refl _ _ _)⟩
/-- a slot's own list -/
theorem run_own {i : Nat} {K : List D → Env → (Addr → Bool) → Hp → Prop} (E : EnvOk R C L H ρ σ) (h : RunK R W (own i) σ H C L ρ K) :
    ∃ a vs xs, σ[i]? = some (some (.ref a)) ∧ H a = some (.lst vs) ∧ Reps R (vis C L H) xs vs ∧ (ρ[i]? = some (.ow xs) ∨ ρ[i]? = some (.io xs)) ∧ (L a = true ∨ C.O0 a = true) ∧ ∀ L' H', EnvOk R C L' H' ρ σ → Step C L H L' H' → K xs ρ L' H' := by
  unfold RunK own at h
  cases e : ρ[i]? with
  | none => rw [e] at h; exact h.elim
  | some s =>
    rw [e] at h
    cases s with
    | no => exact h.elim
    | im d => exact h.elim
    | io xs =>
      obtain ⟨e1, o, vs, ha, r⟩ := E.sl i _ e
      exact ⟨_, vs, xs, slAt_some e1, ha, r, .inr rfl, .inr o, h⟩
    | ow xs =>
      obtain ⟨a, vs, e1, l, ha, r⟩ := E.sl i _ e
      exact ⟨a, vs, xs, slAt_some e1, ha, r, .inl rfl, .inl l, h⟩
/-- .. is written -/
theorem run_wr {i : Nat} {ys : List D} {K : Unit → Env → (Addr → Bool) → Hp → Prop} (E : EnvOk R C L H ρ σ) (h : RunK R W (wr i ys) σ H C L ρ K) {a : Addr} {vs ws : List V} (hi : σ[i]? = some (some (.ref a))) (ha : H a = some (.lst vs)) (r : Reps R (vis C L H) ys ws) :
    ∃ ρ', wr i ys ρ = .ok () ρ' ∧ EnvOk R C L (upd H a (.lst ws)) ρ' σ ∧ Step C L H L (upd H a (.lst ws)) ∧ K () ρ' L (upd H a (.lst ws)) := by
  unfold RunK at h
  unfold wr at h ⊢
  -- what the slot says of a
  have key : ∀ (s : Sl), ρ[i]? = some s → ((∃ xs, s = .ow xs) ∧ L a = true) ∨ ((∃ xs, s = .io xs) ∧ C.O0 a = true ∧ a = C.io i) → ∀ t : Sl, ((∃ xs, s = .ow xs) → t = .ow ys) → ((∃ xs, s = .io xs) → t = .io ys) →
      EnvOk R C L (upd H a (.lst ws)) (ρ.set i t) σ ∧ Step C L H L (upd H a (.lst ws)) := fun s es ho t t1 t2 => by
    have hLO : L a = true ∨ C.O0 a = true := ho.elim (fun z => .inl z.2) fun z => .inr z.2.1
    have hM : C.M0 a = true ∨ L a = true := hLO.elim .inr fun z => .inl (E.o0 a z).1
    have hP : C.P a = none := hLO.elim (fun z => (E.fr a z).2.1) fun z => (E.o0 a z).2
    have S : Step C L H L (upd H a (.lst ws)) := ⟨fun _ z => .inl z, fun b o hb m l => by
      have : b ≠ a := fun z => by
        subst z
        rcases hM with q | q
        · rw [m] at q; cases q
        · rw [l] at q; cases q
      rw [upd_ne this]
      exact hb⟩
    have ev := S.vis
    have nn : ∀ b, H b ≠ none → upd H a (.lst ws) b ≠ none := fun b hb => by
      by_cases z : b = a
      · rw [z, upd_same]
        exact fun z => by cases z
      · rw [upd_ne z]
        exact hb
    have hl : i < ρ.length := (List.getElem?_eq_some_iff.mp es).1
    have get : ∀ j u, (ρ.set i t)[j]? = some u → (j = i ∧ u = t) ∨ (j ≠ i ∧ ρ[j]? = some u) := fun j u hj => by
      by_cases e : i = j
      · subst e
        rw [List.getElem?_set_self hl] at hj
        cases hj
        exact .inl ⟨rfl, rfl⟩
      · rw [List.getElem?_set_ne e] at hj
        exact .inr ⟨fun z => e z.symm, hj⟩
    -- another slot's list is another one
    have other : ∀ j u, j ≠ i → ρ[j]? = some u → SlOk R C L (upd H a (.lst ws)) j (slAt σ j) u := fun j u hj hu => by
      have q := E.sl j u hu
      have sa : slAt σ i = some (.ref a) := slAt_of hi
      cases u with
      | no => trivial
      | im d =>
        obtain ⟨x, e1, r1⟩ := q
        exact ⟨x, e1, r1.le ev⟩
      | ow us =>
        obtain ⟨b, bs, e1, lb, hb, r1⟩ := q
        have : b ≠ a := fun z => by
          subst z
          rcases ho with ⟨⟨xs, rfl⟩, _⟩ | ⟨_, o1, _⟩
          · exact E.inj i j xs us (Ne.symm hj) es hu (sa.trans e1.symm)
          · have := (E.o0 b o1).1
            rw [(E.fr b lb).1] at this
            cases this
        exact ⟨b, bs, e1, lb, by rw [upd_ne this]; exact hb, r1.le ev⟩
      | io us =>
        obtain ⟨e1, ob, bs, hb, r1⟩ := q
        have : C.io j ≠ a := fun z => by
          rcases ho with ⟨_, la⟩ | ⟨⟨xs, rfl⟩, _, o2⟩
          · have := (E.o0 _ ob).1
            rw [z, (E.fr a la).1] at this
            cases this
          · exact E.ioj i j xs us (Ne.symm hj) es hu (o2.symm.trans z.symm)
        exact ⟨e1, ob, bs, by rw [upd_ne this]; exact hb, r1.le ev⟩
    refine ⟨⟨by rw [List.length_set, E.len], fun j u hj => ?_, fun j k us us' hjk h1 h2 => ?_, fun j k us us' hjk h1 h2 => ?_, fun b lb => ⟨(E.fr b lb).1, (E.fr b lb).2.1, nn b (E.fr b lb).2.2⟩, E.o0, fun b o hb => ?_, fun b hb => nn b (E.lv b hb)⟩, S⟩
    · rcases get j u hj with ⟨rfl, rfl⟩ | ⟨hne, q⟩
      · rcases ho with ⟨⟨xs, rfl⟩, la⟩ | ⟨⟨xs, rfl⟩, o1, o2⟩
        · rw [t1 ⟨xs, rfl⟩]
          exact ⟨a, ws, slAt_of hi, la, upd_same, r.le ev⟩
        · rw [t2 ⟨xs, rfl⟩]
          refine ⟨by rw [slAt_of hi, o2], by rw [← o2]; exact o1, ws, by rw [← o2]; exact upd_same, r.le ev⟩
      · exact other j u hne q
    · have back : ∀ (m : Nat) (zs : List D), (ρ.set i t)[m]? = some (Sl.ow zs) → ∃ zs' : List D, ρ[m]? = some (Sl.ow zs') := fun m zs hm => by
        rcases get m _ hm with ⟨rfl, e⟩ | ⟨_, q⟩
        · rcases ho with ⟨⟨xs, rfl⟩, _⟩ | ⟨⟨xs, rfl⟩, _⟩
          · exact ⟨xs, es⟩
          · rw [t2 ⟨xs, rfl⟩] at e
            cases e
        · exact ⟨zs, q⟩
      obtain ⟨z1, q1⟩ := back j us h1
      obtain ⟨z2, q2⟩ := back k us' h2
      exact E.inj j k z1 z2 hjk q1 q2
    · have back : ∀ (m : Nat) (zs : List D), (ρ.set i t)[m]? = some (Sl.io zs) → ∃ zs' : List D, ρ[m]? = some (Sl.io zs') := fun m zs hm => by
        rcases get m _ hm with ⟨rfl, e⟩ | ⟨_, q⟩
        · rcases ho with ⟨⟨xs, rfl⟩, _⟩ | ⟨⟨xs, rfl⟩, _⟩
          · rw [t1 ⟨xs, rfl⟩] at e
            cases e
          · exact ⟨xs, es⟩
        · exact ⟨zs, q⟩
      obtain ⟨z1, q1⟩ := back j us h1
      obtain ⟨z2, q2⟩ := back k us' h2
      exact E.ioj j k z1 z2 hjk q1 q2
    · have : b ≠ a := fun z => by
        subst z
        rw [hP] at hb
        cases hb
      rw [upd_ne this]
      exact E.pr b o hb
  cases e : ρ[i]? with
  | none => rw [e] at h; exact h.elim
  | some s =>
    rw [e] at h
    cases s with
    | no => exact h.elim
    | im d => exact h.elim
    | ow xs =>
      obtain ⟨b, bs, e1, lb, hb, _⟩ := E.sl i _ e
      have : b = a := by
        have := (slAt_of hi).symm.trans e1
        cases this
        rfl
      subst this
      obtain ⟨E', S'⟩ := key _ e (.inl ⟨⟨xs, rfl⟩, lb⟩) (.ow ys) (fun _ => rfl) (fun ⟨_, z⟩ => by cases z)
      exact ⟨_, rfl, E', S', h _ _ E' S'⟩
    | io xs =>
      obtain ⟨e1, ob, bs, hb, _⟩ := E.sl i _ e
      have : C.io i = a := by
        have := (slAt_of hi).symm.trans e1
        cases this
        rfl
      obtain ⟨E', S'⟩ := key _ e (.inr ⟨⟨xs, rfl⟩, by rw [← this]; exact ob, this.symm⟩) (.io ys) (fun ⟨_, z⟩ => by cases z) (fun _ => rfl)
      exact ⟨_, rfl, E', S', h _ _ E' S'⟩
/-- a store to a name -/
theorem run_st {i : Nat} {r : Rv} (h : match st i r ρ with | .ok _ _ => True | _ => False) : ∃ ρ', st i r ρ = .ok () ρ' ∧ ρ' = ρ.set i r.sl := by
  unfold st at h ⊢
  cases e : ρ[i]? with
  | none => rw [e] at h; exact h.elim
  | some s =>
    rw [e] at h
    cases s with
    | io xs => exact h.elim
    | _ => exact ⟨_, rfl, rfl⟩
end
end Pu
/-! Pu, part 6: expressions. -/
namespace Pu
open PySem PySem.Spec PyProof.Rows L2

def isStar : Expr → Bool
  | .Starred .. => true
  | _ => false
theorem starEach_plain {e : Expr} {es : List Expr} {env : PySem.Env} (h : isStar e = false) : starEach (e :: es) env = (false, eval e env) :: starEach es env := by
  cases e <;> first | rfl | cases h
theorem star_any {env : PySem.Env} {pos : Pos} : ∀ {es : List Expr}, (es.all fun e => !isStar e) = true → (backTo pos (starEach es env)).any (·.1) = false
  | [], _ => rfl
  | e :: es, h => by
    rw [List.all_cons, Bool.and_eq_true, Bool.not_eq_true'] at h
    rw [starEach_plain h.1]
    show (false || (backTo pos (starEach es env)).any (·.1)) = false
    rw [star_any h.2]
    rfl

section
variable {R : RC} {W : WX} {X : Cx} {a b c e : Expr} {es : List Expr} {pos : Pos}
theorem pe_cn {c : Cn} : ∀ {k : Const}, (match c with | .non => Const.none | .bl b => .bool b | .int i => .int i | .str x => .str x) = k → ∀ {j : Nat}, PE X (.Constant k j pos) (tR R W (mret (.im c.d))) := fun {k} hk {j} => by
  subst hk
  have fin : ∀ {σ : L2.St} {H : Hp} {Q : VK} {v : V}, (∀ H' : Hp, Rep R H' c.d v) → tR R W (mret (.im c.d)) σ H Q → Q v H := fun {σ H Q v} hv ⟨C, L, ρ, E, h⟩ => h.ret L H E (.refl _ _ _) v (hv _)
  cases c with
  | non => exact PE.imp pe_non fun σ H Q h => fin (fun _ => rfl) h
  | bl b => exact PE.imp pe_bl fun σ H Q h => fin (fun _ => rfl) h
  | int i => exact PE.imp pe_int fun σ H Q h => fin (fun _ => rfl) h
  | str x => exact PE.imp pe_str fun σ H Q h => fin (fun _ => rfl) h
theorem pe_rd {i : Nat} {x : Str} (hN : X.N[i]? = some x) (hv : Vis X.env.scope x) (hd : (x == ("__debug__" : Str)) = false) (hcd : (x == ("__classdict__" : Str)) = false) : PE X (.Name x pos) (tR R W (rd i)) :=
  PE.imp (pe_var hN hv hd hcd) fun σ H Q ⟨C, L, ρ, E, h⟩ => by
    obtain ⟨v, r, ρ', L', h1, E', S', h2, k⟩ := run_rd E h
    exact ⟨v, h1, k v h2⟩
theorem pe_mvd {i : Nat} {x : Str} (hN : X.N[i]? = some x) (hv : Vis X.env.scope x) (hd : (x == ("__debug__" : Str)) = false) (hcd : (x == ("__classdict__" : Str)) = false) : PE X (.Name x pos) (tR R W (mvd i)) :=
  PE.imp (pe_var hN hv hd hcd) fun σ H Q ⟨C, L, ρ, E, h⟩ => by
    obtain ⟨v, r, ρ', L', h1, E', S', h2, k⟩ := run_mvd E h
    exact ⟨v, h1, k v h2⟩
/-- arguments -/
theorem pa_nl : PA X [] (tDs R W (mret [])) := PA.imp pa_nil fun σ H Q ⟨C, L, ρ, E, h⟩ => h.ret L H E (.refl _ _ _) [] rfl
theorem pa_cn {m : M D} {ms : M (List D)} (ha : PE X e (tD R W m)) (hr : PA X es (tDs R W ms)) (hs : isStar e = false) : PA X (e :: es) (tDs R W (mbind m fun x => mbind ms fun xs => mret (x :: xs))) :=
  PA.imp (pa_cons ha hr (starEach_plain hs)) fun σ H Q ⟨C, L, ρ, E, h⟩ => by
    refine ⟨C, L, ρ, E, h.bind.mono fun x ρ1 L1 H1 E1 S1 k v hv => ?_⟩
    refine ⟨C, L1, ρ1, E1, k.bind.mono fun xs ρ2 La H2 E2 S2 k2 vs hvs => ?_⟩
    exact k2.ret La H2 E2 (.refl _ _ _) (.refl _ _ _) (S2.trans E2 (.refl _ _ _)) _ ⟨v, vs, rfl, Rep.le S2.vis _ _ hv, hvs⟩
theorem pe_tupd {ms : M (List D)} {k1 : Nat} (h : PA X es (tDs R W ms)) : PE X (.Tuple es k1 pos) (tR R W (mbind ms fun xs => if xs.length ≤ sizeLine then mret (.im (.tup xs)) else mbad)) :=
  PE.imp (pe_tup h) fun σ H Q ⟨C, L, ρ, E, h⟩ => by
    refine ⟨C, L, ρ, E, h.bind.mono fun xs ρ1 L1 H1 E1 S1 k vs hvs => ?_⟩
    split at k
    · rename_i hz
      refine ⟨by rw [hvs.length]; exact hz, Fin.newT (R := R) (C := C) (L := L1) (ρ := ρ1) (σ := σ) (fun L' H' E' S' u hu => k.ret L' H' E' S' S' u hu) E1 hvs⟩
    · exact k.nobad.elim
theorem pe_lstd {ms : M (List D)} (h : PA X es (tDs R W ms)) : PE X (.List es pos) (tR R W (mbind ms fun xs => if xs.length ≤ sizeLine then mret (.nw xs) else mbad)) :=
  PE.imp (pe_lst h) fun σ H Q ⟨C, L, ρ, E, h⟩ => by
    refine ⟨C, L, ρ, E, h.bind.mono fun xs ρ1 L1 H1 E1 S1 k vs hvs => ?_⟩
    split at k
    · rename_i hz
      refine ⟨by rw [hvs.length]; exact hz, Fin.newL (R := R) (C := C) (L := L1) (ρ := ρ1) (σ := σ) (fun L' H' E' S' u hu => k.ret L' H' E' S' S' u hu) E1 hvs⟩
    · exact k.nobad.elim
/-! ### places -/
theorem atI_rep {H : Hp} {xs : List D} {vs : List V} {i : Int} {d : D} (r : Reps R H xs vs) (h : atI xs i = some d) : ∃ v, atI vs i = some v ∧ Rep R H d v := by
  unfold atI at h ⊢
  rw [r.length]
  cases e : ixN xs.length i with
  | none => rw [e] at h; cases h
  | some j =>
    rw [e] at h
    exact r.get (i := j) h
theorem pe_subd {ma mb : M D} (hK : X.K = R.K) (ha : PE X a (tD R W ma)) (hb : PE X b (tD R W mb)) (hs : PlainIx b) : PE X (.Subscript a b pos) (tR R W (mbind ma fun x => mbind mb fun y => match x.seq?, y with
    | some xs, .int i => mopt ((atI xs i).map .im)
    | _, _ => mbad)) :=
  PE.imp (pe_ix ix_seq ha hb hs) fun σ H Q ⟨C, L, ρ, E, h⟩ => by
    refine ⟨C, L, ρ, E, h.bind.mono fun x ρ1 L1 H1 E1 S1 k v hv => ?_⟩
    refine ⟨C, L1, ρ1, E1, k.bind.mono fun y ρ2 La H2 E2 S2 k2 w hw => ?_⟩
    have hv2 := Rep.le S2.vis _ _ hv
    cases y with
    | int i =>
      cases hw
      cases q : x.seq? with
      | none => rw [q] at k2; exact k2.nobad.elim
      | some xs =>
        rw [q] at k2
        obtain ⟨rv, e1, k3⟩ := k2.opt
        cases q2 : atI xs i with
        | none => rw [q2] at e1; cases e1
        | some d =>
          rw [q2] at e1
          cases e1
          have fin : ∀ u, Rep R (vis C La H2) d u → Q u H2 := fun u hu => k3 La H2 E2 (.refl _ _ _) (.refl _ _ _) (S2.trans E2 (.refl _ _ _)) u hu
          rw [hK]
          cases x <;> first | cases q | skip
          · obtain ⟨p, vs, rfl, hp, r⟩ := rep_tup hv2
            obtain ⟨u, e2, hu⟩ := atI_rep r q2
            exact .inr (.inl ⟨p, vs, i, u, rfl, rfl, hp, e2, fin u hu⟩)
          · obtain ⟨p, vs, rfl, hp, r⟩ := rep_lst hv2
            obtain ⟨u, e2, hu⟩ := atI_rep r q2
            exact .inl ⟨p, vs, i, u, rfl, rfl, .inl (.inl hp), e2, fin u hu⟩
          · obtain ⟨p, vs, rfl, hp, r⟩ := rep_rol hv2
            obtain ⟨u, e2, hu⟩ := atI_rep r q2
            exact .inl ⟨p, vs, i, u, rfl, rfl, hp, e2, fin u hu⟩
    | _ => cases q : x.seq? <;> (rw [q] at k2; exact k2.nobad.elim)
theorem pe_osub {mb : M D} {i : Nat} {x : Str} {p2 : Pos} (hN : X.N[i]? = some x) (hv : Vis X.env.scope x) (hd : (x == ("__debug__" : Str)) = false) (hcd : (x == ("__classdict__" : Str)) = false) (hb : PE X b (tD R W mb)) (hs : PlainIx b) :
    PE X (.Subscript (.Name x p2) b pos) (tR R W (mbind (own i) fun _ => mbind mb fun y => mbind (own i) fun xs => match y with
    | .int j => mopt ((atI xs j).map .im)
    | _ => mbad)) :=
  PE.imp (pe_ix ix_list (pe_var hN hv hd hcd) hb hs) fun σ H Q ⟨C, L, ρ, E, h⟩ => by
    obtain ⟨p, vs0, xs0, hi, hp0, r0, _, _, k0⟩ := run_own E h.bind
    have k0 := k0 L H E (.refl _ _ _)
    refine ⟨.ref p, hi, C, L, ρ, E, k0.bind.mono fun y ρ1 L1 H1 E1 S1 k w hw => ?_⟩
    obtain ⟨p', vs, xs, hi', hp, r, _, _, k2⟩ := run_own E1 k.bind
    rw [hi] at hi'
    cases hi'
    have k2 := k2 L1 H1 E1 (.refl _ _ _)
    cases y with
    | int j =>
      cases hw
      obtain ⟨rv, e1, k3⟩ := k2.opt
      cases q2 : atI xs j with
      | none => rw [q2] at e1; cases e1
      | some d =>
        rw [q2] at e1
        cases e1
        obtain ⟨u, e2, hu⟩ := atI_rep r q2
        exact ⟨p, vs, j, u, rfl, rfl, .inl (.inl hp), e2, k3 L1 H1 E1 (.refl _ _ _) (.refl _ _ _) (.refl _ _ _) S1 u hu⟩
    | _ => exact k2.nobad.elim
end
end Pu
/-! Pu, part 7: slices, tests, built-ins. -/
namespace Pu
open PySem PySem.Spec PyProof.Rows L2

section
variable {R : RC} {W : WX} {X : Cx} {a b c e : Expr} {es : List Expr} {pos : Pos}
theorem po_no : PO X none (tO R W (mret Option.none)) := ⟨fun pins s σ H Q I ⟨C, L, ρ, E, h⟩ => po_none.run pins s σ H Q I (h.ret L H E (.refl _ _ _))⟩
theorem po_so {m : M D} (h : PE X e (tD R W m)) : PO X (some e) (tO R W (mbind m fun x => match x with
    | .int i => mret (Option.some i)
    | _ => mbad)) := ⟨fun pins s σ H Q I ⟨C, L, ρ, E, h2⟩ => (po_some h).run pins s σ H Q I (by
    refine ⟨C, L, ρ, E, h2.bind.mono fun x ρ1 L1 H1 E1 S1 k v hv => ?_⟩
    cases x with
    | int i => cases hv; exact ⟨i, rfl, k.ret L1 H1 E1 (.refl _ _ _) (.refl _ _ _)⟩
    | _ => exact k.nobad.elim)⟩
theorem cut_rep {H : Hp} {xs : List D} {vs : List V} (r : Reps R H xs vs) (lo hi : Option Int) : Reps R H (cutD xs lo hi) (cutV vs lo hi) := by
  unfold cutD cutV
  rw [r.length]
  exact (r.drop _).take _
theorem pe_slcd {m : M D} {ml mh : M (Option Int)} {lo hi : Option Expr} {p2 : Pos} (hK : X.K = R.K) (ha : PE X a (tD R W m)) (hl : PO X lo (tO R W ml)) (hh : PO X hi (tO R W mh)) :
    PE X (.Subscript a (.Slice lo hi none p2) pos) (tR R W (mbind m fun x => mbind ml fun l => mbind mh fun h => mopt (cutR x l h))) :=
  PE.imp (pe_slice (sl_list.or sl_tupA) ha hl hh) fun σ H Q ⟨C, L, ρ, E, h⟩ => by
    refine ⟨C, L, ρ, E, h.bind.mono fun x ρ1 L1 H1 E1 S1 k v hv => ?_⟩
    refine ⟨C, L1, ρ1, E1, k.bind.mono fun l ρ2 La H2 E2 S2 k2 => ?_⟩
    refine ⟨C, La, ρ2, E2, k2.bind.mono fun u ρ3 L3 H3 E3 S3 k3 => ?_⟩
    obtain ⟨rv, e1, k4⟩ := k3.opt
    have hv3 := Rep.le S3.vis _ _ (Rep.le S2.vis _ _ hv)
    have fin : Fin R C L3 H3 ρ3 σ rv Q := fun L' H' E' S' w hw => k4 L' H' E' S' S' (S3.trans E3 S') (S2.trans E2 (S3.trans E3 S')) w hw
    rw [hK]
    cases x with
    | lst xs =>
      cases e1
      obtain ⟨p, vs, rfl, hp, r⟩ := rep_lst hv3
      exact .inl ⟨p, vs, rfl, .inl (.inl hp), fin.newL E3 (cut_rep r l u)⟩
    | rol xs =>
      cases e1
      obtain ⟨p, vs, rfl, hp, r⟩ := rep_rol hv3
      exact .inl ⟨p, vs, rfl, hp, fin.newL E3 (cut_rep r l u)⟩
    | tup xs =>
      cases e1
      obtain ⟨p, vs, rfl, hp, r⟩ := rep_tup hv3
      refine .inr ⟨p, vs, rfl, hp, fun hz => fin.here E3 ?_, fun _ => fin.newT E3 (cut_rep r l u)⟩
      have e2 : cutD xs l u = xs := by
        unfold cutD
        rw [← r.length, hz.1, hz.2, r.length]
        simp
      rw [e2]
      exact hv3
    | _ => cases e1
/-! ### tests -/
theorem tru_rep (hK : X.K = R.K) {H : Hp} {x : D} {v : V} {k : Bool} (h : Rep R H x v) (e : x.truth = some k) : TruV X.K v H k := by
  rw [hK]
  cases x with
  | non => cases h; cases e; rfl
  | bl b => cases h; cases e; rfl
  | int i => cases h; cases e; rfl
  | str z =>
    cases h
    have e' : (if z.length ≤ sizeLine then some ((z.length : Int) != 0) else none) = some k := e
    split at e'
    · rename_i hz
      cases e'
      exact ⟨hz, rfl⟩
    · cases e'
  | tup xs =>
    obtain ⟨p, vs, rfl, hp, r⟩ := h
    cases e
    refine .inr (.inl ⟨vs, hp, ?_⟩)
    have := r.length
    cases xs <;> cases vs <;> simp at this ⊢
  | lst xs =>
    obtain ⟨p, vs, rfl, hp, r⟩ := h
    cases e
    refine .inl ⟨vs, .inl (.inl hp), ?_⟩
    have := r.length
    cases xs <;> cases vs <;> simp at this ⊢
  | rol xs =>
    obtain ⟨p, vs, rfl, hp, r⟩ := h
    cases e
    refine .inl ⟨vs, hp, ?_⟩
    have := r.length
    cases xs <;> cases vs <;> simp at this ⊢
  | fn k => cases e
theorem pt_tru {m : M D} (hK : X.K = R.K) (h : PE X e (tD R W m)) (he : ∀ whole, isTrue e X.env whole = (do let v ← whole; standAt e.pos; holding [v] (truthy v))) : PT X e (tT R W (mbind m fun x => mopt x.truth)) :=
  PT.imp (pt_truth h he) fun σ H Q ⟨C, L, ρ, E, h2⟩ => by
    refine ⟨C, L, ρ, E, h2.bind.mono fun x ρ1 L1 H1 E1 S1 k v hv => ?_⟩
    obtain ⟨t, e1, k2⟩ := k.opt
    exact ⟨t, tru_rep hK (rep_le hv) e1, k2 L1 H1 E1 (.refl _ _ _) (.refl _ _ _)⟩
theorem pt_nt {m : M Bool} (h : PT X e (tT R W m)) : PT X (.UnaryOp .Not e pos) (tT R W (mbind m fun k => mret (!k))) :=
  PT.imp (pt_not h) fun σ H Q ⟨C, L, ρ, E, h2⟩ => ⟨C, L, ρ, E, h2.bind.mono fun x ρ1 L1 H1 E1 S1 k => k.ret L1 H1 E1 (.refl _ _ _) (.refl _ _ _)⟩
theorem PW.imp {X : Cx} {e : Expr} {t t' : TT} (h : PW X e t) (f : ∀ σ H Q, t' σ H Q → t σ H Q) : PW X e t' := ⟨fun wh pins s σ H Q I q => h.run wh pins s σ H Q I (f σ H Q q)⟩
theorem pw_an1 {m : M Bool} (h : PT X a (tT R W m)) : PW X (.BoolOp .And [a] pos) (tT R W (mbind m fun k => match k with
    | true => mret true
    | false => mret false)) :=
  PW.imp (pw_and1 h) fun σ H Q ⟨C, L, ρ, E, h2⟩ => ⟨C, L, ρ, E, h2.bind.mono fun x ρ1 L1 H1 E1 S1 k => by cases x <;> exact k.ret L1 H1 E1 (.refl _ _ _) (.refl _ _ _)⟩
theorem pw_an {m ms : M Bool} {rest : List Expr} (h : PT X a (tT R W m)) (h2 : PW X (.BoolOp .And (b :: rest) pos) (tT R W ms)) : PW X (.BoolOp .And (a :: b :: rest) pos) (tT R W (mbind m fun k => match k with
    | true => ms
    | false => mret false)) :=
  PW.imp (pw_and h h2) fun σ H Q ⟨C, L, ρ, E, h2⟩ => ⟨C, L, ρ, E, h2.bind.mono fun x ρ1 L1 H1 E1 S1 k => by
    cases x with
    | true => exact ⟨C, L1, ρ1, E1, k.mono fun y ρ2 La H2 E2 S2 k2 => k2 S2⟩
    | false => exact k.ret L1 H1 E1 (.refl _ _ _) (.refl _ _ _)⟩
theorem pw_or1' {m : M Bool} (h : PT X a (tT R W m)) : PW X (.BoolOp .Or [a] pos) (tT R W (mbind m fun k => match k with
    | true => mret true
    | false => mret false)) :=
  PW.imp (pw_or1 h) fun σ H Q ⟨C, L, ρ, E, h2⟩ => ⟨C, L, ρ, E, h2.bind.mono fun x ρ1 L1 H1 E1 S1 k => by cases x <;> exact k.ret L1 H1 E1 (.refl _ _ _) (.refl _ _ _)⟩
theorem pw_or' {m ms : M Bool} {rest : List Expr} (h : PT X a (tT R W m)) (h2 : PW X (.BoolOp .Or (b :: rest) pos) (tT R W ms)) : PW X (.BoolOp .Or (a :: b :: rest) pos) (tT R W (mbind m fun k => match k with
    | true => mret true
    | false => ms)) :=
  PW.imp (pw_or h h2) fun σ H Q ⟨C, L, ρ, E, h2⟩ => ⟨C, L, ρ, E, h2.bind.mono fun x ρ1 L1 H1 E1 S1 k => by
    cases x with
    | false => exact ⟨C, L1, ρ1, E1, k.mono fun y ρ2 La H2 E2 S2 k2 => k2 S2⟩
    | true => exact k.ret L1 H1 E1 (.refl _ _ _) (.refl _ _ _)⟩
theorem pe_ited {t : M Bool} {ma mb : M Rv} (hc : PT X c (tT R W t)) (ha : PE X a (tR R W ma)) (hb : PE X b (tR R W mb)) : PE X (.IfExp c a b pos) (tR R W (mbind t fun k => match k with
    | true => ma
    | false => mb)) :=
  PE.imp (pe_ifExp hc ha hb) fun σ H Q ⟨C, L, ρ, E, h2⟩ => ⟨C, L, ρ, E, h2.bind.mono fun x ρ1 L1 H1 E1 S1 k => by
    cases x with
    | true => exact ⟨C, L1, ρ1, E1, k.mono fun y ρ2 La H2 E2 S2 k2 v hv => k2 S2 v hv⟩
    | false => exact ⟨C, L1, ρ1, E1, k.mono fun y ρ2 La H2 E2 S2 k2 v hv => k2 S2 v hv⟩⟩
theorem pe_ntd {m : M D} (hK : X.K = R.K) (h : PE X e (tD R W m)) : PE X (.UnaryOp .Not e pos) (tR R W (mbind m fun x => mopt (x.truth.map fun t => .im (.bl (!t))))) :=
  PE.imp (pe_notT h) fun σ H Q ⟨C, L, ρ, E, h2⟩ => by
    refine ⟨C, L, ρ, E, h2.bind.mono fun x ρ1 L1 H1 E1 S1 k v hv => ?_⟩
    obtain ⟨rv, e1, k2⟩ := k.opt
    cases q : x.truth with
    | none => rw [q] at e1; cases e1
    | some t =>
      rw [q] at e1
      cases e1
      exact ⟨t, tru_rep hK (rep_le hv) q, k2 L1 H1 E1 (.refl _ _ _) (.refl _ _ _) _ rfl⟩
theorem pe_negd {m : M D} (h : PE X e (tD R W m)) : PE X (.UnaryOp .USub e pos) (tR R W (mbind m fun x => match x with
    | .int i => mret (.im (.int (-i)))
    | _ => mbad)) :=
  PE.imp (pe_un un_neg h) fun σ H Q ⟨C, L, ρ, E, h2⟩ => by
    refine ⟨C, L, ρ, E, h2.bind.mono fun x ρ1 L1 H1 E1 S1 k v hv => ?_⟩
    cases x with
    | int i => cases hv; exact ⟨i, rfl, k.ret L1 H1 E1 (.refl _ _ _) (.refl _ _ _) _ rfl⟩
    | _ => exact k.nobad.elim
theorem pe_and1d {m : M Rv} {op : BoolOp} (h : PE X a (tR R W m)) : PE X (.BoolOp op [a] pos) (tR R W m) := pe_one h
theorem pe_andd {m : M D} {ms : M Rv} {rest : List Expr} (hK : X.K = R.K) (h : PE X a (tD R W m)) (h2 : PE X (.BoolOp .And (b :: rest) pos) (tR R W ms)) : PE X (.BoolOp .And (a :: b :: rest) pos) (tR R W (mbind m fun x => match x.truth with
    | some true => ms
    | some false => mret (.im x)
    | none => mbad)) :=
  PE.imp (pe_andT h h2) fun σ H Q ⟨C, L, ρ, E, h2⟩ => by
    refine ⟨C, L, ρ, E, h2.bind.mono fun x ρ1 L1 H1 E1 S1 k v hv => ?_⟩
    cases q : x.truth with
    | none => rw [q] at k; exact k.nobad.elim
    | some t =>
      rw [q] at k
      refine ⟨t, tru_rep hK (rep_le hv) q, ?_⟩
      cases t with
      | true => exact ⟨C, L1, ρ1, E1, k.mono fun y ρ2 La H2 E2 S2 k2 v hv => k2 S2 v hv⟩
      | false => exact k.ret L1 H1 E1 (.refl _ _ _) (.refl _ _ _) v hv
theorem pe_ord {m : M D} {ms : M Rv} {rest : List Expr} (hK : X.K = R.K) (h : PE X a (tD R W m)) (h2 : PE X (.BoolOp .Or (b :: rest) pos) (tR R W ms)) : PE X (.BoolOp .Or (a :: b :: rest) pos) (tR R W (mbind m fun x => match x.truth with
    | some false => ms
    | some true => mret (.im x)
    | none => mbad)) :=
  PE.imp (pe_orT h h2) fun σ H Q ⟨C, L, ρ, E, h2⟩ => by
    refine ⟨C, L, ρ, E, h2.bind.mono fun x ρ1 L1 H1 E1 S1 k v hv => ?_⟩
    cases q : x.truth with
    | none => rw [q] at k; exact k.nobad.elim
    | some t =>
      rw [q] at k
      refine ⟨t, tru_rep hK (rep_le hv) q, ?_⟩
      cases t with
      | false => exact ⟨C, L1, ρ1, E1, k.mono fun y ρ2 La H2 E2 S2 k2 v hv => k2 S2 v hv⟩
      | true => exact k.ret L1 H1 E1 (.refl _ _ _) (.refl _ _ _) v hv
/-! ### chains -/
theorem t3_of {r r' : R2} {den den' : D → D → Option Bool} {ma mb mc : M D} (hr : R2Ok R r fun x y => (den x y).map fun t => .im (.bl t)) (hr' : R2Ok R r' fun x y => (den' x y).map fun t => .im (.bl t)) {σ : L2.St} {H : Hp} {Q : VK}
    (h : tR R W (mbind ma fun x => mbind mb fun y => mbind (mopt (den x y)) fun t => match t with
      | true => mbind mc fun z => mopt ((den' y z).map fun t => .im (.bl t))
      | false => mret (.im (.bl false))) σ H Q) : tChain r r' (tD R W ma) (tD R W mb) (tD R W mc) σ H Q := by
  obtain ⟨C, L, ρ, E, h⟩ := h
  refine ⟨C, L, ρ, E, h.bind.mono fun x ρ1 L1 H1 E1 S1 k v hv => ?_⟩
  refine ⟨C, L1, ρ1, E1, k.bind.mono fun y ρ2 La H2 E2 S2 k2 w hw => ?_⟩
  obtain ⟨t, e1, k3⟩ := k2.bind.opt
  refine hr C La H2 ρ2 σ x y v w (.im (.bl t)) _ E2 (Rep.le S2.vis _ _ hv) hw (by simp only [e1]; rfl) fun L3 H3 E3 S3 u hu => ?_
  have hu' : u = .bl t := hu
  subst hu'
  have k4 := k3 L3 H3 E3 S3
  refine ⟨t, rfl, ?_⟩
  cases t with
  | true =>
    refine ⟨C, L3, ρ2, E3, k4.bind.mono fun z ρ4 L4 H4 E4 S4 k5 w' hw' => ?_⟩
    obtain ⟨rv, e2, k6⟩ := k5.opt
    refine hr' C L4 H4 ρ4 σ y z w w' rv Q E4 (Rep.le S4.vis _ _ (Rep.le S3.vis _ _ hw)) hw' e2 fun L5 H5 E5 S5 u hu => ?_
    exact k6 L5 H5 E5 S5 S5 (S4.trans E4 S5) (S3.trans E3 (S4.trans E4 S5)) (S2.trans E2 (S3.trans E3 (S4.trans E4 S5))) u hu
  | false => exact k4.ret L3 H3 E3 (.refl _ _ _) (.refl _ _ _) S3 (S2.trans E2 S3) _ rfl
theorem pe_c3d {o o' : C2} {ma mb mc : M D} (hK : X.K = R.K) (hu : X.A.units + 64 < cLine) (ha : PE X a (tD R W ma)) (hb : PE X b (tD R W mb)) (hc : PE X c (tD R W mc)) (hm : lastMarks [o.op, o'.op] [b, c] = false) :
    PE X (.Compare a [o.op, o'.op] [b, c] pos) (tR R W (mbind ma fun x => mbind mb fun y => mbind (mopt (o.den x y)) fun t => match t with
      | true => mbind mc fun z => mopt ((o'.den y z).map fun t => .im (.bl t))
      | false => mret (.im (.bl false)))) := by
  obtain ⟨r, h1, h2⟩ := cmp_rule (R := R) hK hu o
  obtain ⟨r', h3, h4⟩ := cmp_rule (R := R) hK hu o'
  exact PE.imp (pe_chain h1 h3 ha hb hc hm) fun σ H Q h => t3_of h2 h4 h
theorem pt_c3d {o o' : C2} {ma mb mc : M D} (hK : X.K = R.K) (hu : X.A.units + 64 < cLine) (ha : PE X a (tD R W ma)) (hb : PE X b (tD R W mb)) (hc : PE X c (tD R W mc)) (hm : lastMarks [o.op, o'.op] [b, c] = false) :
    PT X (.Compare a [o.op, o'.op] [b, c] pos) (tT R W (mbind ma fun x => mbind mb fun y => mbind (mopt (o.den x y)) fun t => match t with
      | true => mbind mc fun z => mopt (o'.den y z)
      | false => mret false)) := by
  obtain ⟨r, h1, h2⟩ := cmp_rule (R := R) hK hu o
  obtain ⟨r', h3, h4⟩ := cmp_rule (R := R) hK hu o'
  refine PT.imp (pt_chain h1 h3 ha hb hc hm) fun σ H Q h => ?_
  refine t3_of (den := o.den) (den' := o'.den) (ma := ma) (mb := mb) (mc := mc) (W := W) h2 h4 ?_
  obtain ⟨C, L, ρ, E, h⟩ := h
  refine ⟨C, L, ρ, E, ?_⟩
  unfold RunK mbind at h ⊢
  cases e1 : ma ρ with
  | bad => rw [e1] at h; exact h.elim
  | exc x ρ' => rw [e1] at h; exact h
  | ok x ρ1 =>
    simp only [e1] at h ⊢
    cases e2 : mb ρ1 with
    | bad => rw [e2] at h; exact h.elim
    | exc x ρ' => rw [e2] at h; exact h
    | ok y ρ2 =>
      simp only [e2] at h ⊢
      cases e3 : o.den x y with
      | none => rw [e3] at h; exact h.elim
      | some k =>
        rw [e3] at h
        cases k with
        | false => exact fun L' H' E' S' v hv => ⟨false, hv, h L' H' E' S'⟩
        | true =>
          simp only [mopt, mret] at h ⊢
          cases e4 : mc ρ2 with
          | bad => rw [e4] at h; exact h.elim
          | exc x ρ' => rw [e4] at h; exact h
          | ok z ρ4 =>
            simp only [e4] at h ⊢
            cases e5 : o'.den y z with
            | none => rw [e5] at h; exact h.elim
            | some k =>
              rw [e5] at h
              exact fun L' H' E' S' v hv => ⟨k, hv, h L' H' E' S'⟩
end
end Pu
/-! Pu, part 8: built-ins. -/
namespace Pu
open PySem PySem.Spec PyProof.Rows L2

/-- a call's rule does what the data function says -/
def CallOk (R : RC) (r : List V → Hp → VK → Prop) (den : List D → Option Rv) : Prop :=
  ∀ (C : Cc) (L : Addr → Bool) (H : Hp) (ρ : Env) (σ : L2.St) (xs : List D) (vs : List V) (rv : Rv) (Q : VK), EnvOk R C L H ρ σ → Reps R (vis C L H) xs vs → den xs = some rv → Fin R C L H ρ σ rv Q → r vs H Q
theorem CallOk.of {R : RC} {r r' : List V → Hp → VK → Prop} {den : List D → Option Rv} (h : CallOk R r den) (f : ∀ vs H Q, r vs H Q → r' vs H Q) : CallOk R r' den := fun C L H ρ σ xs vs rv Q E hv e k => f _ _ _ (h C L H ρ σ xs vs rv Q E hv e k)
theorem reps1 {R : RC} {H : Hp} {x : D} {vs : List V} (h : Reps R H [x] vs) : ∃ v, vs = [v] ∧ Rep R H x v := by
  obtain ⟨v, r, rfl, h1, h2⟩ := h
  have e : r = [] := h2
  subst e
  exact ⟨v, rfl, h1⟩
theorem reps2 {R : RC} {H : Hp} {x y : D} {vs : List V} (h : Reps R H [x, y] vs) : ∃ v w, vs = [v, w] ∧ Rep R H x v ∧ Rep R H y w := by
  obtain ⟨v, r, rfl, h1, h2⟩ := h
  obtain ⟨w, rfl, h3⟩ := reps1 h2
  exact ⟨v, w, rfl, h1, h3⟩
theorem allI_eq : ∀ {xs : List D} {ns : List Int}, allI xs = some ns → xs = ns.map D.int
  | [], ns, e => by cases e; rfl
  | x :: xs, ns, e => by
    cases x with
    | int i =>
      have e' : (match allI xs with | some is => some (i :: is) | none => none) = some ns := e
      cases q : allI xs with
      | none => rw [q] at e'; cases e'
      | some is =>
        rw [q] at e'
        cases e'
        rw [allI_eq q]
        rfl
    | _ => cases e
theorem allB_eq : ∀ {xs : List D} {ns : List Bool}, allB xs = some ns → xs = ns.map D.bl
  | [], ns, e => by cases e; rfl
  | x :: xs, ns, e => by
    cases x with
    | bl i =>
      have e' : (match allB xs with | some is => some (i :: is) | none => none) = some ns := e
      cases q : allB xs with
      | none => rw [q] at e'; cases e'
      | some is =>
        rw [q] at e'
        cases e'
        rw [allB_eq q]
        rfl
    | _ => cases e
theorem allI_map (ns : List Int) : allI (ns.map D.int) = some ns := by
  induction ns with
  | nil => rfl
  | cons n ns ih =>
    show (match allI (ns.map D.int) with | some is => some (n :: is) | none => none) = _
    rw [ih]
theorem allB_map (ns : List Bool) : allB (ns.map D.bl) = some ns := by
  induction ns with
  | nil => rfl
  | cons n ns ih =>
    show (match allB (ns.map D.bl) with | some is => some (n :: is) | none => none) = _
    rw [ih]
/-! ### the greatest, the least, the sorted -/
theorem maxI_spec : ∀ (n : Int) (ns : List Int), maxI (n :: ns) ∈ n :: ns ∧ ∀ a, a ∈ n :: ns → a ≤ maxI (n :: ns)
  | n, [] => ⟨by simp [maxI], fun a h => by simp [maxI] at h ⊢; omega⟩
  | n, m :: r => by
    obtain ⟨h1, h2⟩ := maxI_spec m r
    have e : maxI (n :: m :: r) = max n (maxI (m :: r)) := rfl
    refine ⟨?_, fun a h => ?_⟩
    · rw [e]
      by_cases q : n ≤ maxI (m :: r)
      · rw [show max n (maxI (m :: r)) = maxI (m :: r) by omega]
        exact List.mem_cons_of_mem _ h1
      · rw [show max n (maxI (m :: r)) = n by omega]
        exact List.mem_cons_self
    · rcases List.mem_cons.mp h with rfl | h
      · rw [e]; omega
      · have := h2 a h
        rw [e]; omega
theorem minI_spec : ∀ (n : Int) (ns : List Int), minI (n :: ns) ∈ n :: ns ∧ ∀ a, a ∈ n :: ns → minI (n :: ns) ≤ a
  | n, [] => ⟨by simp [minI], fun a h => by simp [minI] at h ⊢; omega⟩
  | n, m :: r => by
    obtain ⟨h1, h2⟩ := minI_spec m r
    have e : minI (n :: m :: r) = min n (minI (m :: r)) := rfl
    refine ⟨?_, fun a h => ?_⟩
    · rw [e]
      by_cases q : n ≤ minI (m :: r)
      · rw [show min n (minI (m :: r)) = n by omega]
        exact List.mem_cons_self
      · rw [show min n (minI (m :: r)) = minI (m :: r) by omega]
        exact List.mem_cons_of_mem _ h1
    · rcases List.mem_cons.mp h with rfl | h
      · rw [e]; omega
      · have := h2 a h
        rw [e]; omega
theorem insI_perm (x : Int) : ∀ l : List Int, (insI x l).Perm (x :: l)
  | [] => .refl _
  | y :: r => by
    unfold insI
    split
    · exact .refl _
    · exact ((insI_perm x r).cons y).trans (.swap x y r)
theorem sortI_perm : ∀ l : List Int, (sortI l).Perm l
  | [] => .refl _
  | x :: r => (insI_perm x (sortI r)).trans ((sortI_perm r).cons x)
theorem insI_sorted (x : Int) : ∀ l : List Int, l.Pairwise (· ≤ ·) → (insI x l).Pairwise (· ≤ ·)
  | [], _ => by simp [insI]
  | y :: r, h => by
    unfold insI
    have h' := List.pairwise_cons.mp h
    split
    · rename_i hxy
      refine List.pairwise_cons.mpr ⟨fun a ha => ?_, h⟩
      rcases List.mem_cons.mp ha with rfl | ha
      · exact hxy
      · have := h'.1 a ha
        omega
    · rename_i hxy
      refine List.pairwise_cons.mpr ⟨fun a ha => ?_, insI_sorted x r h'.2⟩
      rcases List.mem_cons.mp ((insI_perm x r).mem_iff.mp ha) with rfl | ha
      · omega
      · exact h'.1 a ha
theorem sortI_sorted : ∀ l : List Int, (sortI l).Pairwise (· ≤ ·)
  | [] => .nil
  | x :: r => insI_sorted x _ (sortI_sorted r)
theorem sorted_uniq : ∀ {l l' : List Int}, l.Perm l' → l.Pairwise (· ≤ ·) → l'.Pairwise (· ≤ ·) → l = l'
  | [], l', p, _, _ => (List.nil_perm.mp p).symm
  | x :: r, [], p, _, _ => absurd p.length_eq (by simp)
  | x :: r, y :: r', p, s, s' => by
    have h := List.pairwise_cons.mp s
    have h' := List.pairwise_cons.mp s'
    have e : x = y := by
      have h1 : x ∈ y :: r' := p.mem_iff.mp List.mem_cons_self
      have h2 : y ∈ x :: r := p.mem_iff.mpr List.mem_cons_self
      rcases List.mem_cons.mp h1 with e | h1
      · exact e
      · rcases List.mem_cons.mp h2 with e | h2
        · exact e.symm
        · have := h.1 y h2
          have := h'.1 x h1
          omega
    subst e
    rw [sorted_uniq ((List.perm_cons x).mp p) h.2 h'.2]
/-! ### each built-in -/
section
variable {R : RC} {X : Cx}
theorem bo_len : CallOk R (fun xs H Q => ∃ p ys, xs = [.ref p] ∧ (SqL R.K H p ys ∨ SqT R.K H p ys) ∧ Q (.int ys.length) H) dLen := fun C L H ρ σ xs vs rv Q E hv e k => by
  unfold dLen at e
  split at e
  · rename_i ys
    cases e
    obtain ⟨v, rfl, h1v⟩ := reps1 hv
    obtain ⟨p, ws, rfl, hp, r⟩ := rep_tup h1v
    exact ⟨p, ws, rfl, .inr hp, by rw [r.length]; exact k.here E rfl⟩
  · rename_i ys
    cases e
    obtain ⟨v, rfl, h1v⟩ := reps1 hv
    obtain ⟨p, ws, rfl, hp, r⟩ := rep_lst h1v
    exact ⟨p, ws, rfl, .inl (.inl (.inl hp)), by rw [r.length]; exact k.here E rfl⟩
  · rename_i ys
    cases e
    obtain ⟨v, rfl, h1v⟩ := reps1 hv
    obtain ⟨p, ws, rfl, hp, r⟩ := rep_rol h1v
    exact ⟨p, ws, rfl, .inl hp, by rw [r.length]; exact k.here E rfl⟩
  · cases e
theorem bo_abs : CallOk R (fun xs H Q => ∃ i, xs = [.int i] ∧ Q (.int (if i < 0 then -i else i)) H) dAbs := fun C L H ρ σ xs vs rv Q E hv e k => by
  unfold dAbs at e
  split at e
  · rename_i i
    cases e
    obtain ⟨v, rfl, h1v⟩ := reps1 hv
    cases h1v
    exact ⟨i, rfl, k.here E rfl⟩
  · cases e
theorem bo_int : CallOk R (fun xs H Q => (∃ i, xs = [.int i] ∧ Q (.int i) H) ∨ ∃ k, xs = [.bl k] ∧ Q (.int (if k then 1 else 0)) H) dInt := fun C L H ρ σ xs vs rv Q E hv e k => by
  unfold dInt at e
  split at e
  · rename_i i
    cases e
    obtain ⟨v, rfl, h1v⟩ := reps1 hv
    cases h1v
    exact .inl ⟨i, rfl, k.here E rfl⟩
  · cases e
theorem bo_divmod : CallOk R (fun xs H Q => ∃ i j, xs = [.int i, .int j] ∧ CDiv i j ∧ ∀ p, H p = none → Q (.ref p) (upd H p (.tup [.int (i / j), .int (i % j)]))) dDivmod := fun C L H ρ σ xs vs rv Q E hv e k => by
  unfold dDivmod at e
  split at e
  · rename_i i j
    have e' : (if 0 < j ∧ j < 1073741824 then some (Rv.im (.tup [.int (i / j), .int (i % j)])) else none) = some rv := e
    split at e'
    · rename_i hz
      cases e'
      obtain ⟨v, w, rfl, h1v, hw⟩ := reps2 hv
      cases h1v
      cases hw
      exact ⟨i, j, rfl, hz, k.newT E ⟨_, _, rfl, rfl, _, _, rfl, rfl, rfl⟩⟩
    · cases e'
  · cases e
theorem bo_max2 : CallOk R (fun xs H Q => ∃ i j, xs = [.int i, .int j] ∧ Q (.int (if j > i then j else i)) H) dMax2 := fun C L H ρ σ xs vs rv Q E hv e k => by
  unfold dMax2 at e
  split at e
  · rename_i i j
    cases e
    obtain ⟨v, w, rfl, h1v, hw⟩ := reps2 hv
    cases h1v
    cases hw
    exact ⟨i, j, rfl, k.here E rfl⟩
  · cases e
theorem bo_min2 : CallOk R (fun xs H Q => ∃ i j, xs = [.int i, .int j] ∧ Q (.int (if j < i then j else i)) H) dMin2 := fun C L H ρ σ xs vs rv Q E hv e k => by
  unfold dMin2 at e
  split at e
  · rename_i i j
    cases e
    obtain ⟨v, w, rfl, h1v, hw⟩ := reps2 hv
    cases h1v
    cases hw
    exact ⟨i, j, rfl, k.here E rfl⟩
  · cases e
theorem ints_at {C : Cc} {L : Addr → Bool} {H : Hp} {xs : List D} {v : V} {ns : List Int} (hv : Rep R (vis C L H) (.lst xs) v) (e : allI xs = some ns) : ∃ p, v = .ref p ∧ SqL R.K H p (ns.map V.int) := by
  obtain ⟨p, ws, rfl, hp, r⟩ := rep_lst hv
  rw [allI_eq e] at r
  rw [Reps.ints ns r] at hp
  exact ⟨p, rfl, .inl (.inl hp)⟩
/-- sum(t) of a tuple of ints -/
def rSumT (K : PySem.W.Frag) : List V → Hp → VK → Prop := fun vs H Q => ∃ (a : Addr) (ns : List Int), vs = [V.ref a] ∧ SqT K H a (ns.map V.int) ∧ Q (.int ns.sum) H
theorem cr_sum2 {X : Cx} (hc : X.calm = true) : CallR X (.builtin "sum") fun vs H Q => rSum X.K vs H Q ∨ rSumT X.K vs H Q := by
  intro pins s σ H vs us Q I r h
  rcases h with h | h
  · exact cr_sum hc pins s σ H vs us Q I r h
  · obtain ⟨a, ns, rfl, hs, q⟩ := h
    obtain ⟨its, rv, hl, _⟩ := I.tuple hs
    rw [Vals.ref1 r]
    have hi := rv.ints
    obtain ⟨xs, e⟩ := hi.allInts.items
    have hn : numsOf (intItems xs).toList = ns := by rw [← e]; exact hi.numsOf
    rw [nums_intItems] at hn
    rw [e] at hl
    refine PySem.W.ktm_sumG (I.ok.hd hc) (show s.heap.IsTuple a (intItems xs) from hl) fun h' tk t' hk => ?_
    rw [preSum_eq, List.take_of_length_le (by simp), hn]
    exact ⟨.int _, H, I.kept hk, ⟨_, rfl⟩, q⟩
theorem bo_sum : CallOk R (fun vs H Q => rSum R.K vs H Q ∨ rSumT R.K vs H Q) dSum := fun C L H ρ σ xs vs rv Q E hv e k => by
  unfold dSum at e
  split at e
  · rename_i ys
    have e' : (allI ys).map (fun ns => Rv.im (.int ns.sum)) = some rv := e
    cases q : allI ys with
    | none => rw [q] at e'; cases e'
    | some ns =>
      rw [q] at e'
      cases e'
      obtain ⟨v, rfl, h1v⟩ := reps1 hv
      obtain ⟨p, rfl, hp⟩ := ints_at h1v q
      exact .inl ⟨p, ns, rfl, hp, k.here E rfl⟩
  · rename_i ys
    have e' : (allI ys).map (fun ns => Rv.im (.int ns.sum)) = some rv := e
    cases q : allI ys with
    | none => rw [q] at e'; cases e'
    | some ns =>
      rw [q] at e'
      cases e'
      obtain ⟨v, rfl, h1v⟩ := reps1 hv
      obtain ⟨p, ws, rfl, hp, r⟩ := rep_tup h1v
      rw [allI_eq q] at r
      rw [Reps.ints ns r] at hp
      exact .inr ⟨p, ns, rfl, hp, k.here E rfl⟩
  · cases e
theorem bo_max1 : CallOk R (rMax R.K) dMax1 := fun C L H ρ σ xs vs rv Q E hv e k => by
  unfold dMax1 at e
  split at e
  · rename_i ys
    have e' : (match allI ys with | some (n :: ns) => some (Rv.im (.int (maxI (n :: ns)))) | _ => none) = some rv := e
    cases q : allI ys with
    | none => rw [q] at e'; cases e'
    | some ns =>
      rw [q] at e'
      cases ns with
      | nil => cases e'
      | cons n ns =>
        cases e'
        obtain ⟨v, rfl, h1v⟩ := reps1 hv
        obtain ⟨p, rfl, hp⟩ := ints_at h1v q
        refine ⟨p, n :: ns, rfl, hp, by simp, fun m hm hle => ?_⟩
        obtain ⟨h1, h2⟩ := maxI_spec n ns
        have : m = maxI (n :: ns) := by
          have := hle _ h1
          have := h2 m hm
          omega
        subst this
        exact k.here E rfl
  · cases e
theorem bo_min1 : CallOk R (rMin R.K) dMin1 := fun C L H ρ σ xs vs rv Q E hv e k => by
  unfold dMin1 at e
  split at e
  · rename_i ys
    have e' : (match allI ys with | some (n :: ns) => some (Rv.im (.int (minI (n :: ns)))) | _ => none) = some rv := e
    cases q : allI ys with
    | none => rw [q] at e'; cases e'
    | some ns =>
      rw [q] at e'
      cases ns with
      | nil => cases e'
      | cons n ns =>
        cases e'
        obtain ⟨v, rfl, h1v⟩ := reps1 hv
        obtain ⟨p, rfl, hp⟩ := ints_at h1v q
        refine ⟨p, n :: ns, rfl, hp, by simp, fun m hm hle => ?_⟩
        obtain ⟨h1, h2⟩ := minI_spec n ns
        have : m = minI (n :: ns) := by
          have := hle _ h1
          have := h2 m hm
          omega
        subst this
        exact k.here E rfl
  · cases e
theorem bls_at {C : Cc} {L : Addr → Bool} {H : Hp} {xs : List D} {v : V} {ns : List Bool} (hv : Rep R (vis C L H) (.lst xs) v) (e : allB xs = some ns) : ∃ p, v = .ref p ∧ SqL R.K H p (ns.map V.bl) := by
  obtain ⟨p, ws, rfl, hp, r⟩ := rep_lst hv
  rw [allB_eq e] at r
  rw [Reps.bls ns r] at hp
  exact ⟨p, rfl, .inl (.inl hp)⟩
theorem bo_all : CallOk R (rAll R.K) dAll := fun C L H ρ σ xs vs rv Q E hv e k => by
  unfold dAll at e
  split at e
  · rename_i ys
    have e' : (allB ys).map (fun ns => Rv.im (.bl (ns.all id))) = some rv := e
    cases q : allB ys with
    | none => rw [q] at e'; cases e'
    | some ns =>
      rw [q] at e'
      cases e'
      obtain ⟨v, rfl, h1v⟩ := reps1 hv
      obtain ⟨p, rfl, hp⟩ := bls_at h1v q
      exact ⟨p, ns, rfl, hp, k.here E rfl⟩
  · cases e
theorem bo_any : CallOk R (rAny R.K) dAny := fun C L H ρ σ xs vs rv Q E hv e k => by
  unfold dAny at e
  split at e
  · rename_i ys
    have e' : (allB ys).map (fun ns => Rv.im (.bl (ns.any id))) = some rv := e
    cases q : allB ys with
    | none => rw [q] at e'; cases e'
    | some ns =>
      rw [q] at e'
      cases e'
      obtain ⟨v, rfl, h1v⟩ := reps1 hv
      obtain ⟨p, rfl, hp⟩ := bls_at h1v q
      exact ⟨p, ns, rfl, hp, k.here E rfl⟩
  · cases e
theorem bo_sorted : CallOk R (rSortedI R.K) dSorted := fun C L H ρ σ xs vs rv Q E hv e k => by
  unfold dSorted at e
  split at e
  · rename_i ys
    have e' : (allI ys).map (fun ns => Rv.nw ((sortI ns).map D.int)) = some rv := e
    cases q : allI ys with
    | none => rw [q] at e'; cases e'
    | some ns =>
      rw [q] at e'
      cases e'
      obtain ⟨v, rfl, h1v⟩ := reps1 hv
      obtain ⟨p, rfl, hp⟩ := ints_at h1v q
      refine ⟨p, ns, rfl, hp, fun ns' p' hperm hs np => ?_⟩
      have e2 : ns' = sortI ns := sorted_uniq (hperm.trans (sortI_perm ns).symm) hs (sortI_sorted ns)
      subst e2
      exact k.newL E (Reps.of_ints _) p' np
  · cases e
theorem bo_tuple : CallOk R (fun xs H Q => ∃ p ys, xs = [.ref p] ∧ ((SqL R.K H p ys ∧ ∀ l, H l = none → Q (.ref l) (upd H l (.tup ys))) ∨ (SqT R.K H p ys ∧ Q (.ref p) H))) dTuple := fun C L H ρ σ xs vs rv Q E hv e k => by
  unfold dTuple at e
  split at e
  · rename_i ys
    cases e
    obtain ⟨v, rfl, h1v⟩ := reps1 hv
    obtain ⟨p, ws, rfl, hp, r⟩ := rep_lst h1v
    exact ⟨p, ws, rfl, .inl ⟨.inl (.inl hp), k.newT E r⟩⟩
  · rename_i ys
    cases e
    obtain ⟨v, rfl, h1v⟩ := reps1 hv
    obtain ⟨p, ws, rfl, hp, r⟩ := rep_tup h1v
    exact ⟨p, ws, rfl, .inr ⟨hp, k.here E h1v⟩⟩
  · cases e
theorem bo_list : CallOk R (fun xs H Q => ∃ p ys, xs = [.ref p] ∧ (SqL R.K H p ys ∨ SqT R.K H p ys) ∧ ∀ l, H l = none → Q (.ref l) (upd H l (.lst ys))) dList := fun C L H ρ σ xs vs rv Q E hv e k => by
  unfold dList at e
  split at e
  · rename_i ys
    cases e
    obtain ⟨v, rfl, h1v⟩ := reps1 hv
    obtain ⟨p, ws, rfl, hp, r⟩ := rep_lst h1v
    exact ⟨p, ws, rfl, .inl (.inl (.inl hp)), k.newL E r⟩
  · rename_i ys
    cases e
    obtain ⟨v, rfl, h1v⟩ := reps1 hv
    obtain ⟨p, ws, rfl, hp, r⟩ := rep_tup h1v
    exact ⟨p, ws, rfl, .inr hp, k.newL E r⟩
  · cases e
/-- repr of data -/
def rRepr (K : PySem.W.Frag) : List V → Hp → VK → Prop := fun xs H Q => ∃ x d, xs = [x] ∧ Dp K H x d ∧ d.showable = true ∧ d.hasDict = false ∧ d.shown.length ≤ sizeLine ∧ d.depth ≤ 20 ∧ Q (.str d.shown) H
theorem call_reprD (hg : X.A.guards = some []) (hu : X.A.units + 64 < cLine) : CallR X (.builtin "repr") (rRepr X.K) := by
  intro pins s σ H xs us Q I r h
  obtain ⟨x, d, rfl, dp, h1, h2, h3, h4, q⟩ := h
  obtain ⟨u, rfl, ru⟩ := vals1 r
  obtain ⟨as, rs⟩ := Dp.reads I d x u dp ru
  have fin : ∀ (h' : Heap) (t tk : Tok), (∀ b o, s.heap.get? b = some o → h'.get? b = some o) → EP X pins σ Q (.str d.shown t) { s with heap := h', toks := tk } := fun h' t tk kp => ⟨.str d.shown, H, I.kept (t' := tk) kp, ⟨t, rfl⟩, q⟩
  cases x with
  | ref a =>
    cases ru
    exact repr_of_reads' rs h1 (fun z => by rw [h2] at z; cases z) hg (by omega) (fun b o e => e) (fun h' t tk kp => fin h' t tk kp) h3
  | non => cases dp; cases ru; exact call_repr_gives (typeIs_none s) F.slot_NoneType_repr F.entry_NoneType_repr (F.args_NoneType_repr_1 _) gives_none_repr (fin s.heap _ _ fun _ _ e => e)
  | bl b => cases dp; cases ru; exact call_repr_gives (PySem.typeIs_bool s b) F.slot_bool_repr F.entry_bool_repr (F.args_bool_repr_1 _) (gives_bool_repr b) (fin s.heap _ _ fun _ _ e => e) (hx := by cases b <;> decide)
  | int i =>
    cases dp
    obtain ⟨t, rfl⟩ := ru
    exact PySem.P.repr_of_int (by simpa [PyData.showable] using h1) (fin s.heap _ _ fun _ _ e => e)
  | str z =>
    cases dp
    obtain ⟨t, rfl⟩ := ru
    exact call_repr_gives (typeIs_str s z t) F.slot_str_repr F.entry_str_repr (F.args_str_repr_1 _) (gives_str_repr z t) (fin s.heap _ _ fun _ _ e => e) (hx := h3)
  | _ => cases dp
theorem bo_repr : CallOk R (rRepr R.K) dRepr := fun C L H ρ σ xs vs rv Q E hv e k => by
  unfold dRepr at e
  split at e
  · rename_i x
    obtain ⟨v, rfl, h1v⟩ := reps1 hv
    have e' : (match x.py with
      | some d => if d.showable = true ∧ d.hasDict = false ∧ d.shown.length ≤ sizeLine ∧ d.depth ≤ 20 then some (Rv.im (.str d.shown)) else none
      | none => none) = some rv := e
    cases q : x.py with
    | none => rw [q] at e'; cases e'
    | some d =>
      rw [q] at e'
      simp only at e'
      split at e'
      · rename_i hz
        cases e'
        exact ⟨v, d, rfl, Rep.dp _ _ _ (rep_le h1v) q, hz.1, hz.2.1, hz.2.2.1, hz.2.2.2, k.here E rfl⟩
      · cases e'
  · cases e
end
end Pu
/-! Pu, part 9: built-ins by name, isinstance, min with a default. -/
namespace Pu
open PySem PySem.Spec PyProof.Rows L2
section
variable {R : RC} {W : WX} {X : Cx} {a b c e : Expr} {es : List Expr} {pos p : Pos}
/-- a built-in function of the name x -/
theorem pe_bfd {id : String} {x : Str} {r : List V → Hp → VK → Prop} {den : List D → Option Rv} {ms : M (List D)} (hc : CallR X (.builtin id) r) (ok : CallOk R r den) (hg : Gl X x) (hm : X.mg x = none) (hv : bootBuiltins x = some (.builtin id)) (ha : PA X (e :: es) (tDs R W ms))
    (hs : ((e :: es).all fun e => !isStar e) = true) (hn : x ≠ "__name__") (hdb : (x == ("__debug__" : Str)) = false) : PE X (.Call (.Name x p) (e :: es) [] pos) (tR R W (mbind ms fun xs => mopt (den xs))) := by
  have h2 : (!isStar e) = true ∧ (es.all fun e => !isStar e) = true := by
    rw [List.all_cons, Bool.and_eq_true] at hs
    exact hs
  refine PE.imp (pe_callB hc hg hm hv ha hn hdb (starEach_plain (by simpa using h2.1)) (star_any h2.2)) fun σ H Q ⟨C, L, ρ, E, h⟩ => ⟨C, L, ρ, E, h.bind.mono fun xs ρ1 L1 H1 E1 S1 k vs hvs => ?_⟩
  obtain ⟨rv, e1, k2⟩ := k.opt
  exact ok C L1 H1 ρ1 σ xs vs rv Q E1 hvs e1 fun L' H' E' S' u hu => k2 L' H' E' S' S' u hu
/-- a built-in type -/
theorem pe_btd {T : String} {x : Str} {r : List V → Hp → VK → Prop} {den : List D → Option Rv} {ms : M (List D)} (hc : CallR X (.type T) r) (ok : CallOk R r den) (hg : Gl X x) (hm : X.mg x = none) (hv : bootBuiltins x = some (.type T)) (ha : PA X (e :: es) (tDs R W ms))
    (hs : ((e :: es).all fun e => !isStar e) = true) (hn : x ≠ "__name__") (hdb : (x == ("__debug__" : Str)) = false) : PE X (.Call (.Name x p) (e :: es) [] pos) (tR R W (mbind ms fun xs => mopt (den xs))) := by
  have h2 : (!isStar e) = true ∧ (es.all fun e => !isStar e) = true := by
    rw [List.all_cons, Bool.and_eq_true] at hs
    exact hs
  refine PE.imp (pe_callTy hc hg hm hv ha hn hdb (starEach_plain (by simpa using h2.1)) (star_any h2.2)) fun σ H Q ⟨C, L, ρ, E, h⟩ => ⟨C, L, ρ, E, h.bind.mono fun xs ρ1 L1 H1 E1 S1 k vs hvs => ?_⟩
  obtain ⟨rv, e1, k2⟩ := k.opt
  exact ok C L1 H1 ρ1 σ xs vs rv Q E1 hvs e1 fun L' H' E' S' u hu => k2 L' H' E' S' S' u hu
/-- any of them -/
theorem pe_bf {f : Bf} {ms : M (List D)} (hK : X.K = R.K) (hcalm : X.calm = true) (hgu : X.A.guards = some []) (hu : X.A.units + 64 < cLine) (hg : Gl X f.name) (hm : X.mg f.name = none) (ha : PA X (e :: es) (tDs R W ms)) (hs : ((e :: es).all fun e => !isStar e) = true) :
    PE X (.Call (.Name f.name p) (e :: es) [] pos) (tR R W (mbind ms fun xs => mopt (f.den xs))) := by
  cases f with
  | len => exact pe_bfd (by have h := call_len_seq (X := X); rw [hK] at h; exact h) bo_len hg hm (by decide +kernel) ha hs (by decide) (by decide)
  | abs => exact pe_bfd call_abs bo_abs hg hm (by decide +kernel) ha hs (by decide) (by decide)
  | int => exact pe_btd call_int1 bo_int hg hm (by decide +kernel) ha hs (by decide) (by decide)
  | divmod => exact pe_bfd call_divmod bo_divmod hg hm (by decide +kernel) ha hs (by decide) (by decide)
  | max2 => exact pe_bfd (call_max2 hcalm) bo_max2 hg hm (by decide +kernel) ha hs (by decide) (by decide)
  | min2 => exact pe_bfd (call_min2 hcalm) bo_min2 hg hm (by decide +kernel) ha hs (by decide) (by decide)
  | sum => exact pe_bfd (by rw [← hK]; exact cr_sum2 hcalm) bo_sum hg hm (by decide +kernel) ha hs (by decide) (by decide)
  | max1 => exact pe_bfd (by rw [← hK]; exact cr_max hcalm) bo_max1 hg hm (by decide +kernel) ha hs (by decide) (by decide)
  | min1 => exact pe_bfd (by rw [← hK]; exact cr_min hcalm) bo_min1 hg hm (by decide +kernel) ha hs (by decide) (by decide)
  | all => exact pe_bfd (by rw [← hK]; exact cr_all hcalm) bo_all hg hm (by decide +kernel) ha hs (by decide) (by decide)
  | any => exact pe_bfd (by rw [← hK]; exact cr_any hcalm) bo_any hg hm (by decide +kernel) ha hs (by decide) (by decide)
  | sorted => exact pe_bfd (by rw [← hK]; exact cr_sortedI) bo_sorted hg hm (by decide +kernel) ha hs (by decide) (by decide)
  | tuple => exact pe_btd (by have h := call_tuple_of (X := X); rw [hK] at h; exact h) bo_tuple hg hm (by decide +kernel) ha hs (by decide) (by decide)
  | list => exact pe_btd (by have h := call_list_of (X := X); rw [hK] at h; exact h) bo_list hg hm (by decide +kernel) ha hs (by decide) (by decide)
  | repr => exact pe_bfd (by rw [← hK]; exact call_reprD hgu hu) bo_repr hg hm (by decide +kernel) ha hs (by decide) (by decide)
theorem bo_gcd : CallOk R rGcd dGcd := fun C L H ρ σ xs vs rv Q E hv e k => by
  unfold dGcd at e
  split at e
  · rename_i i j
    cases e
    obtain ⟨v, w, rfl, h1v, hw⟩ := reps2 hv
    cases h1v
    cases hw
    exact ⟨i, j, rfl, k.here E rfl⟩
  · cases e
theorem pe_gcdd {ms : M (List D)} (hg : Gl X "gcd") (hm : X.mg "gcd" = some (.builtin "math.gcd")) (ha : PA X (e :: es) (tDs R W ms)) (hs : ((e :: es).all fun e => !isStar e) = true) :
    PE X (.Call (.Name "gcd" p) (e :: es) [] pos) (tR R W (mbind ms fun xs => mopt (dGcd xs))) := by
  have h2 : (!isStar e) = true ∧ (es.all fun e => !isStar e) = true := by
    rw [List.all_cons, Bool.and_eq_true] at hs
    exact hs
  refine PE.imp (pe_callBfun cr_gcd hg hm ha (by decide) (starEach_plain (by simpa using h2.1)) (star_any h2.2)) fun σ H Q ⟨C, L, ρ, E, h⟩ => ⟨C, L, ρ, E, h.bind.mono fun xs ρ1 L1 H1 E1 S1 k vs hvs => ?_⟩
  obtain ⟨rv, e1, k2⟩ := k.opt
  exact bo_gcd C L1 H1 ρ1 σ xs vs rv Q E1 hvs e1 fun L' H' E' S' u hu => k2 L' H' E' S' S' u hu
/-! ### isinstance -/
def isTys : List String := ["int", "bool", "tuple", "str", "list"]
theorem isA_rep {K : PySem.W.Frag} {H : Hp} {x : D} {v : V} {T : String} {k : Bool} (hK : R.K = K) (hT : T ∈ isTys) (h : Rep R H x v) (e : x.isA T = some k) : ∃ t, TyX K H v t ∧ PySem.W.kitOne K t (.type T) = some k := by
  subst hK
  have go : ∀ {S : String} {t : Value}, TyX R.K H v t → t = .type S → kitB S T = some k → ∃ t, TyX R.K H v t ∧ PySem.W.kitOne R.K t (.type T) = some k := fun h1 h2 h3 => by
    subst h2
    exact ⟨_, h1, kit_ty h3⟩
  have cs : T = "int" ∨ T = "bool" ∨ T = "tuple" ∨ T = "str" ∨ T = "list" := by simpa [isTys] using hT
  cases x with
  | non =>
    cases h
    cases e
    rcases cs with rfl | rfl | rfl | rfl | rfl <;> exact go (S := "NoneType") (.base .non) rfl (by decide +kernel)
  | bl b =>
    cases h
    cases e
    rcases cs with rfl | rfl | rfl | rfl | rfl <;> exact go (S := "bool") (.base (.bl b)) rfl (by decide +kernel)
  | int b =>
    cases h
    cases e
    rcases cs with rfl | rfl | rfl | rfl | rfl <;> exact go (S := "int") (.base (.int b)) rfl (by decide +kernel)
  | str b =>
    cases h
    cases e
    rcases cs with rfl | rfl | rfl | rfl | rfl <;> exact go (S := "str") (.base (.str b)) rfl (by decide +kernel)
  | tup xs =>
    obtain ⟨p, vs, rfl, hp, _⟩ := h
    have ty : TyX R.K H (.ref p) (.type "tuple") := by
      rcases hp with (hp | ⟨o, hp⟩) | ⟨o, its, n, h1, h2, _⟩
      · exact .base (.tup hp)
      · exact .fTuple hp
      · exact .kTuple h1 h2
    cases e
    rcases cs with rfl | rfl | rfl | rfl | rfl <;> exact go (S := "tuple") ty rfl (by decide +kernel)
  | lst xs =>
    obtain ⟨p, vs, rfl, hp, _⟩ := h
    cases e
    rcases cs with rfl | rfl | rfl | rfl | rfl <;> exact go (S := "list") (.base (.lst hp)) rfl (by decide +kernel)
  | rol xs =>
    obtain ⟨p, vs, rfl, hp, _⟩ := h
    have ty : TyX R.K H (.ref p) (.type "list") := by
      rcases hp with (hp | ⟨o, hp⟩) | ⟨o, its, n, h1, h2, _⟩
      · exact .base (.lst hp)
      · exact .base (.frz hp)
      · exact .kList h1 h2
    cases e
    rcases cs with rfl | rfl | rfl | rfl | rfl <;> exact go (S := "list") ty rfl (by decide +kernel)
  | fn k => cases e
theorem boot_T {T : String} (hT : T ∈ isTys) : bootBuiltins (Str.ofString T) = some (.type T) ∧ (Str.ofString T) ≠ ("__name__" : Str) ∧ ((Str.ofString T) == ("__debug__" : Str)) = false := by
  have cs : T = "int" ∨ T = "bool" ∨ T = "tuple" ∨ T = "str" ∨ T = "list" := by simpa [isTys] using hT
  rcases cs with rfl | rfl | rfl | rfl | rfl <;> exact ⟨by decide +kernel, by decide +kernel, by decide +kernel⟩
theorem pe_isa {m : M D} {T : String} {p2 : Pos} (hK : X.K = R.K) (hT : T ∈ isTys) (hg : Gl X "isinstance") (hm : X.mg "isinstance" = none) (hg2 : Gl X (Str.ofString T)) (hm2 : X.mg (Str.ofString T) = none) (ha : PE X a (tD R W m)) (hs : isStar a = false) :
    PE X (.Call (.Name "isinstance" p) [a, .Name (Str.ofString T) p2] [] pos) (tR R W (mbind m fun x => mopt ((x.isA T).map fun t => .im (.bl t)))) := by
  obtain ⟨b1, b2, b3⟩ := boot_T hT
  have hb : PE X (.Name (Str.ofString T) p2) (tC (.ty T)) := pe_bltn hg2 hm2 b1 rfl b2 b3
  refine PE.imp (pe_callB call_isi hg hm (by decide +kernel) (pa_cons ha (pa_cons hb pa_nil (by rfl)) (starEach_plain hs)) (by decide) (by decide) (starEach_plain hs) (by rfl)) fun σ H Q ⟨C, L, ρ, E, h⟩ => ⟨C, L, ρ, E, h.bind.mono fun x ρ1 L1 H1 E1 S1 k v hv => ?_⟩
  obtain ⟨rv, e1, k2⟩ := k.opt
  cases q : x.isA T with
  | none => rw [q] at e1; cases e1
  | some t =>
    rw [q] at e1
    cases e1
    obtain ⟨ty, h1, h2⟩ := isA_rep hK.symm hT (rep_le hv) q
    exact ⟨v, .ty T, ty, .type T, t, rfl, .ty T, h1, h2, k2 L1 H1 E1 (.refl _ _ _) (.refl _ _ _) _ rfl⟩
end
end Pu
/-! Pu, part 9m: min with a default. -/
namespace Pu
open PySem PySem.Spec PyProof.Rows L2
/-! ### min(xs, default=d), a list of ints -/
section
variable {prog : Program} {w : World} {A : Around} {E : Value → Shared → Prop} {s : Shared}
theorem args_minD (a d : Value) : argsOk "min" ⟨[a], [("default", d)]⟩ := by unfold argsOk; kernel_rfl
theorem bind_minD (d : Value) : Builtin.Builtins.bindParams "min" ["key", "default"] 0 ⟨[], [("default", d)]⟩ = pure [none, some d] := by kernel_rfl
abbrev kwD (d : Value) : List (Str × Value) := [("default", d)]
theorem minLoop_on {R' : Result → Shared → Prop} {I S : Addr} {fp wr : List Addr} {n : Nat} {P : Nat → Value → Prop} {St : Nat → Heap → Prop} (d : Value) (Wk : Walks prog w A.in1 I fp wr n P St) (bt : Nat → Nat → Bool) (cm : CmpOf prog w A.in1 .Lt P bt) (nS : S ∉ fp) :
    ∀ (left at' : Nat) (s : Shared) (vb : Value) (cap : Nat), n - (at' + 1) = left → at' + 1 ≤ n → St (at' + 1) s.heap → P (argBest bt at') vb → s.heap.get? S = some { cls := .type "list", dict := none, data := .seq #[vb, vb] cap, slots := #[] } →
    (∀ v h' tk, P (argBest bt (n - 1)) v → (∀ b o, b ∉ wr → b ≠ S → s.heap.get? b = some o → h'.get? b = some o) → R' (.ok (.ret v)) { s with heap := h', toks := tk }) →
    codeAny (model prog w) A (.builtin "min.loop" ⟨[.ref I, .none, .ref S], kwD d⟩) R' s := by
  have nW : S ∉ wr := fun h => nS (Wk.sub _ h)
  have nm : (toString "min" ++ toString ".loop" : String) = "min.loop" := by decide
  intro left
  induction left with
  | zero =>
    intro at' s vb cap hl ha hs hP hS fin
    have e0 : at' + 1 = n := by omega
    refine codeAny_builtin F.entry_min_loop ?_
    rw [Around.under_plainId F.plain_min_loop _]
    show wpAny _ A.in1 (seqItems? (.ref S) >>= _) _ _ s
    refine wpAny_bind (wpAny_seqItems hS rfl ?_)
    show wpAny _ A.in1 (tryCatch (pyNext (.ref I)) _ >>= _) _ _ s
    refine wpAny_bind (wpAny_tryCatch (Wk.done s _ _ (e0 ▸ hs) fun h' tk kp => ?_))
    have hS2 := kp S _ nW hS
    show wpAny _ A.in1 (updateSeq S (fun _ => #[]) >>= _) _ _ _
    refine wpAny_bind ?_
    refine wpAny_updateSeq hS2 rfl (wpAny_bind (wpAny_letGo (wpAny_pure ?_)))
    exact fin vb _ tk (by rw [← e0]; exact hP) fun b o h1 h2 e => (Heap.get?_update_other _ _ (Ne.symm h2)).trans (kp b o h1 e)
  | succ left ih =>
    intro at' s vb cap hl ha hs hP hS fin
    have lt : at' + 1 < n := by omega
    refine codeAny_builtin F.entry_min_loop ?_
    rw [Around.under_plainId F.plain_min_loop _]
    show wpAny _ A.in1 (seqItems? (.ref S) >>= _) _ _ s
    refine wpAny_bind (wpAny_seqItems hS rfl ?_)
    show wpAny _ A.in1 (tryCatch (pyNext (.ref I)) _ >>= _) _ _ s
    refine wpAny_bind (wpAny_tryCatch (Wk.item (at' + 1) s _ _ lt hs fun v h' tk pv st' kp => ?_))
    have hS2 := kp S _ nW hS
    show wpAny _ A.in1 (tryCatch (holding [v, v] (richCompare .Lt v vb >>= _)) _ >>= _) _ _ _
    refine wpAny_bind (wpAny_tryCatch (wpAny_holding (wpAny_bind (cm (at' + 1) (argBest bt at') v vb _ _ _ pv hP ?_))))
    refine wpAny_bind (wpAny_holding (wpAny_truthy_bool ?_))
    refine wpAny_bind (wpAny_letGo (wpAny_pure ?_))
    cases hb : bt (at' + 1) (argBest bt at') with
    | true =>
      simp only [if_true]
      refine wpAny_bind ?_
      refine wpAny_updateSeq hS2 rfl (wpAny_bind (wpAny_letGo ?_))
      rw [nm]
      refine wpAny_pure ⟨plainId_quiet F.plain_min_loop _, ih (at' + 1) _ v _ (by omega) lt (Wk.frame _ _ _ st' fun b hbf o e => ?_) (by simp only [argBest, hb, if_true]; exact pv) (Heap.get?_update_self _ hS2 rfl) fun v' h2 tk2 p2 k2 => ?_⟩
      · exact (Heap.get?_update_other _ _ (fun h : S = b => nS (by rw [h]; exact hbf))).trans e
      · exact fin v' h2 tk2 p2 fun b o h1 h3 e => k2 b o h1 h3 ((Heap.get?_update_other _ _ (Ne.symm h3)).trans (kp b o h1 e))
    | false =>
      simp only [Bool.false_eq_true, if_false]
      refine wpAny_bind (wpAny_letGo ?_)
      rw [nm]
      exact wpAny_pure ⟨plainId_quiet F.plain_min_loop _, ih (at' + 1) _ vb cap (by omega) lt st' (by simp only [argBest, hb, Bool.false_eq_true, if_false]; exact hP) hS2 fun v' h2 tk2 p2 k2 => fin v' h2 tk2 p2 fun b o h1 h3 e => k2 b o h1 h3 (kp b o h1 e)⟩
theorem min_dflt {l : Addr} {its : List Value} {ns : List Int} {d : Value} {Q : Value → Shared → Prop} (hh : A.handled = none) (hl : s.heap.IsList l its.toArray) (hi : IntsAre its ns)
    (h0 : ns = [] → ∀ h' tk, (∀ b o, s.heap.get? b = some o → h'.get? b = some o) → Q d { s with heap := h', toks := tk })
    (h : 0 < ns.length → ∀ h' tk m t', (∀ b o, s.heap.get? b = some o → h'.get? b = some o) → m ∈ ns → (∀ a, a ∈ ns → m ≤ a) → Q (.int m t') { s with heap := h', toks := tk }) :
    wpAny (model prog w) A (call (.builtin "min") [.ref l] (kwD d)) Q E s := by
  obtain ⟨xs, e⟩ := hi.allInts.items
  have hn : numsOf (intItems xs).toList = ns := by rw [← e]; exact hi.numsOf
  rw [nums_intItems] at hn
  subst hn
  rw [e] at hl
  have nm : (toString "min" ++ toString ".loop" : String) = "min.loop" := by decide
  refine kmk_tree F.kind_min F.plain_min F.entry_min (args_minD _ _) ?_
  show wpAny _ A.in1 (Builtin.Builtins.bindParams "min" ["key", "default"] 0 ⟨[], kwD d⟩ >>= _) _ _ s
  refine wpAny_bind (wpAny_of_eq (bind_minD d) ?_)
  refine wpAny_bind (wpAny_pure ?_)
  refine wpAny_bind (iter_intList hl fun s₂ es st hfp ne => ?_)
  subst es
  refine wpAny_bind (wpAny_newObj_type ?_)
  rw [nm]
  have Wk := Walks.list (prog := prog) (w := w) (A := A.in1) hh s.heap.objs.size l ne (intItems xs)
  generalize hB : ({ s with heap := s.heap.push { cls := .type "list_iterator", data := .fields #[.ref l, .int 0 0] } } : Shared) = s₂ at st hfp ⊢
  have nS : s₂.heap.objs.size ∉ [s.heap.objs.size, l] := fun hm => Nat.lt_irrefl _ (hfp _ hm)
  have old : ∀ {h' : Heap}, (∀ b o, b ∉ [s.heap.objs.size] → b ≠ s₂.heap.objs.size → (s₂.heap.push { cls := .type "list", data := .seq #[] }).get? b = some o → h'.get? b = some o) → ∀ b o, s.heap.get? b = some o → h'.get? b = some o := fun {h'} k b o eb => by
    have q : s₂.heap.get? b = some o := by
      rw [← hB]
      exact Heap.get?_push_of_some _ eb
    refine k b o (fun hm => ?_) (Nat.ne_of_lt (Heap.lt_size q)) (Heap.get?_push_of_some _ q)
    have z : b = s.heap.objs.size := by simpa using hm
    exact absurd (z ▸ Heap.lt_size eb) (Nat.lt_irrefl _)
  have hst : _ := Wk.frame _ _ _ st fun b _ o e => Heap.get?_push_of_some { cls := .type "list", data := .seq #[] } e
  have hS := Heap.get?_push_size s₂.heap (o := { cls := .type "list", dict := none, data := .seq (#[] : Array Value), slots := #[] }) rfl
  have eqs : ∀ (h' : Heap) (tk : Tok), ({ s₂ with heap := h', toks := tk } : Shared) = { s with heap := h', toks := tk } := fun h' tk => by rw [← hB]
  have nW : s₂.heap.objs.size ∉ [s.heap.objs.size] := fun hm => nS (List.mem_cons.mpr (.inl (by simpa using hm)))
  refine wpAny_pure ⟨plainId_quiet F.plain_min_loop _, ?_⟩
  refine codeAny_builtin F.entry_min_loop ?_
  rw [Around.under_plainId F.plain_min_loop _]
  show wpAny _ A.in1 (seqItems? (.ref s₂.heap.objs.size) >>= _) _ _ _
  refine wpAny_bind (wpAny_seqItems hS rfl ?_)
  show wpAny _ A.in1 (tryCatch (pyNext (.ref s.heap.objs.size)) _ >>= _) _ _ _
  by_cases hz : 0 < xs.size
  · refine wpAny_bind (wpAny_tryCatch (Wk.item 0 _ _ _ (by simpa [intItems] using hz) hst fun v h' tk pv st' kp => ?_))
    have hS2 := kp _ _ nW hS
    show wpAny _ A.in1 (updateSeq s₂.heap.objs.size (fun _ => #[v, v]) >>= _) _ _ _
    refine wpAny_bind ?_
    refine wpAny_updateSeq hS2 rfl ?_
    rw [nm]
    refine wpAny_pure ⟨plainId_quiet F.plain_min_loop _, minLoop_on d Wk _ (CmpOf.ints_lt (numAt xs) fun _ _ => intItems_at) nS _ 0 _ v _ rfl (by simp only [intItems, Array.size_map]; omega) (Wk.frame _ _ _ st' fun b hbf o e => ?_) pv (Heap.get?_update_self _ hS2 rfl) fun v' h2 tk2 p2 k2 => ?_⟩
    · exact (Heap.get?_update_other _ _ (fun h : s₂.heap.objs.size = b => nS (by rw [h]; exact hbf))).trans e
    · obtain ⟨t, rfl⟩ := intItems_at p2
      obtain ⟨h1, h3⟩ := argBest_lt (numAt xs) ((intItems xs).size - 1)
      have hsz : (intItems xs).size = xs.size := by simp [intItems]
      show Q _ { s₂ with heap := h2, toks := tk2 }
      rw [eqs]
      refine h (by simpa using hz) h2 tk2 _ t (old fun b o hb1 hb2 e => k2 b o hb1 hb2 ((Heap.get?_update_other _ _ (Ne.symm hb2)).trans (kp b o hb1 e))) ?_ fun a ha => ?_
      · rw [numAt_eq]
        exact PySem.getD_mem (by rw [List.length_map, Array.length_toList]; omega)
      · obtain ⟨j, hj, rfl⟩ := mem_getD ha
        rw [List.length_map, Array.length_toList] at hj
        rw [← numAt_eq]
        exact h3 j (by omega)
  · have hx : xs.size = 0 := by omega
    refine wpAny_bind (wpAny_tryCatch (Wk.done _ _ _ (by have : (intItems xs).size = 0 := by simp [intItems, hx]
                                                         rw [this]; exact hst) fun h' tk kp => ?_))
    show wpAny _ A.in1 (PySem.rule _ >>= _) _ _ _
    refine wpAny_bind (wpAny_rule (wpAny_pure ?_))
    show Q _ { s₂ with heap := h', toks := tk }
    rw [eqs]
    exact h0 (by have : xs = #[] := Array.eq_empty_of_size_eq_zero hx
                 subst this; rfl) h' tk (old fun b o hb1 _ e => kp b o hb1 e)
end
/-- the least of a list of ints, or w -/
def rMinD (K : PySem.W.Frag) (v w : V) : Hp → VK → Prop := fun H Q => ∃ (l : Addr) (ns : List Int), v = .ref l ∧ SqL K H l (ns.map V.int) ∧ (ns = [] → Q w H) ∧ (0 < ns.length → ∀ m, m ∈ ns → (∀ y, y ∈ ns → m ≤ y) → Q (.int m) H)
section
variable {R : RC} {W : WX} {X : Cx} {a b c e : Expr} {es : List Expr} {pos p kp : Pos}
theorem pe_mind {ma md : M D} (hK : X.K = R.K) (hcalm : X.calm = true) (hg : Gl X "min") (hm : X.mg "min" = none) (ha : PE X a (tD R W ma)) (hd : PE X b (tD R W md)) (hs : isStar a = false) :
    PE X (.Call (.Name "min" p) [a] [⟨some "default", b, kp⟩] pos) (tR R W (mbind ma fun x => mbind md fun y => match x with
    | .lst xs => match allI xs with
      | some [] => mret (.im y)
      | some ns => mret (.im (.int (minI ns)))
      | none => mbad
    | _ => mbad)) := by
  refine ⟨fun pins s σ H Q I ⟨C, L, ρ, E, h⟩ => ?_⟩
  refine wpAny_Call_Name_kw (ld_blt (u := .builtin "min") I hg hm (by decide +kernel) ?_ (by decide) (by decide))
  refine PyProof.Rows.callWith_kw (thn ((pa_cons ha pa_nil (starEach_plain hs)).run pos pins s σ H (fun vs H1 => tD R W md σ H1 fun w H2 => ∃ v, vs = [v] ∧ rMinD R.K v w H2 Q) I ?_) fun us s1 ⟨vs, H1, I1, r1, q1⟩ => ?_) (by rw [starEach_plain hs]; rfl) (by rw [starEach_plain hs]; rfl) (by rfl) (by rfl)
  · refine ⟨C, L, ρ, E, h.bind.mono fun x ρ1 L1 H1 E1 S1 k v hv => ?_⟩
    refine ⟨C, L1, ρ1, E1, k.bind.mono fun y ρ2 La H2 E2 S2 k2 w hw => ⟨v, rfl, ?_⟩⟩
    have hv2 := Rep.le S2.vis _ _ hv
    cases x with
    | lst xs =>
      cases q : allI xs with
      | none => simp only [q] at k2; exact k2.nobad.elim
      | some ns =>
        obtain ⟨p, rfl, hp⟩ := ints_at hv2 q
        refine ⟨p, ns, rfl, hp, fun z => ?_, fun z m hm1 hm2 => ?_⟩
        · subst z
          simp only [q] at k2
          exact k2.ret La H2 E2 (.refl _ _ _) (.refl _ _ _) S2 w hw
        · cases ns with
          | nil => cases z
          | cons n ns =>
            simp only [q] at k2
            obtain ⟨h1, h2⟩ := minI_spec n ns
            have em : m = minI (n :: ns) := by
              have := hm2 _ h1
              have := h2 m hm1
              omega
            subst em
            exact k2.ret La H2 E2 (.refl _ _ _) (.refl _ _ _) S2 _ rfl
    | _ => exact k2.nobad.elim
  · refine thn ((pk_cons hd pk_nil).run pos pins s1 σ H1 (fun zs H2 => ∃ v w, vs = [v] ∧ zs = [w] ∧ rMinD R.K v w H2 Q) I1 ?_) fun kvs s2 ⟨zs, H2, I2, r2, v, w, e1, e2, q2⟩ => ?_
    · obtain ⟨C, L, ρ, E, h⟩ := q1
      refine ⟨C, L, ρ, E, h.mono fun d _ L' H' _ _ k w hw => ?_⟩
      obtain ⟨v, e1, k⟩ := k w hw
      exact ⟨v, w, e1, rfl, k⟩
    · subst e1 e2
      obtain ⟨u, rfl, ru⟩ := vals1 r1
      obtain ⟨d, rfl, rd⟩ := vals1 r2
      obtain ⟨l, ns, rfl, hl, k0, k1⟩ := q2
      cases ru
      obtain ⟨its, rv, ht, hz⟩ := I2.list (by rw [hK]; exact hl)
      refine min_dflt (I2.ok.hd hcalm) ht.isList (intsAre_of rv) (fun z h' tk kp => ?_) (fun z h' tk m t' kp hm1 hm2 => ?_)
      · exact ⟨w, H2, I2.kept (t' := tk) kp, rd, k0 z⟩
      · exact ⟨.int m, H2, I2.kept (t' := tk) kp, ⟨t', rfl⟩, k1 z m hm1 hm2⟩
end
end Pu
/-! Pu, part 10: what a def promises, and its call. -/
namespace Pu
open PySem PySem.Spec PyProof.Rows L2

structure RoomG (k : Nat) (A : Around) : Prop where
  r : Room k A
  g : A.guards = some []
theorem RoomG.mono {j k : Nat} {A : Around} (h : RoomG k A) (l : j ≤ k) : RoomG j A := ⟨h.r.mono l, h.g⟩
/-- as FnOk, around nothing that shows itself -/
structure FnG (P : Program) (w : World) (K : PySem.W.Frag) (mg : Str → Option Value) (base : Heap) (k : Nat) (f : Addr) (fd : FuncData) (ps : List Str) (sp : Sp) : Prop where
  len : ∀ vs H Q E, sp vs H Q E → vs.length = ps.length
  run : ∀ (A : Around) (outer : List PySem.Env) (s : Shared) (H : Hp) (args : Args) (us : List Value) (vs : List V) (Q : VK) (E : XK), RoomG k A → Env0 P w K mg base A outer s H → BindsTo s fd args (ps.zip us) → Vals vs us → sp vs H Q E →
    codeAny (model P w) A (.call (.ref f) args) (CR (L2.CX P w) outer P w H s Q E) s
theorem FnG.mono {P : Program} {w : World} {K : PySem.W.Frag} {mg : Str → Option Value} {base : Heap} {j k : Nat} {f : Addr} {fd : FuncData} {ps : List Str} {sp : Sp} (F : FnG P w K mg base j f fd ps sp) (h : j ≤ k) : FnG P w K mg base k f fd ps sp := ⟨F.len, fun A outer s H args us vs Q E hr => F.run A outer s H args us vs Q E (hr.mono h)⟩
theorem FnG.imp {P : Program} {w : World} {K : PySem.W.Frag} {mg : Str → Option Value} {base : Heap} {k : Nat} {f : Addr} {fd : FuncData} {ps : List Str} {sp sp' : Sp} (F : FnG P w K mg base k f fd ps sp) (h : ∀ vs H Q E, sp' vs H Q E → sp vs H Q E) : FnG P w K mg base k f fd ps sp' :=
  ⟨fun vs H Q E q => F.len vs H Q E (h _ _ _ _ q), fun A outer s H args us vs Q E hr e0 hb r q => F.run A outer s H args us vs Q E hr e0 hb r (h _ _ _ _ q)⟩
/-- a def of the text, by its body -/
theorem fnG_of {P : Program} {w : World} {K : PySem.W.Frag} {mg : Str → Option Value} {base : Heap} {k : Nat} {f : Addr} {x qual : Str} {st : Stmt} {fd : FuncData} {N ps : List Str} {sp : Sp} (F : Fun K x qual st f fd) (S : FnScope N ps (defScope st)) (len : ∀ vs H Q E, sp vs H Q E → vs.length = ps.length)
    (body : ∀ (cdv : Value) (A : Around) (outer : List PySem.Env) (s : Shared) (H : Hp) (vs : List V) (Q : VK) (E : XK), RoomG k (A.deeper (envOfC qual (defScope st) s.heap.objs.size f cdv)) → sp vs H Q E →
      ∃ t, PSs (cxOf (L2.CX P w) P w K mg base N qual (defScope st) f cdv A outer s H E) (defBody st) t ∧ t { nx := fun _ H' => Q .non H', rt := Q } (start N vs) H) : FnG P w K mg base (k + 1) f fd ps sp := by
  obtain ⟨oc, od, kV, doc, pm, an, cdv, ct, osl, rfl, lk, hcd⟩ := F.ex
  refine ⟨len, fun A outer s H args us vs Q E hr e0 hb r hsp => ?_⟩
  have nl := len _ _ _ _ hsp
  have inK : K.In s.heap := e0.mod.kin.keeps fun b o e => (e0.bs b o e).1
  have noL : s.heap.NoLimit := e0.mod.nolimit.keeps fun b o e => (e0.bs b o e).1
  refine codeAny_call_function hr.r.depth (inK _ _ lk) rfl S.co S.gen rfl (PySem.W.codeRec_of inK hcd) (hb _ _ _ _ ?_)
  refine wpAny_newFunctionEnv_cells S.kind (fun y hy => ?_) fun env he s1 z => ?_
  · rcases S.par y.1 (List.of_mem_zip (show (y.1, y.2) ∈ ps.zip us from hy)).1 with q | q
    · exact .inl q
    · exact .inr ⟨q, PySem.W.cellsFrom_some _ _ _ (.inl q)⟩
  subst he
  refine ⟨noL.keeps z.toInCall.keep, codeAny_func ?_⟩
  obtain ⟨t, ht, hq⟩ := body cdv A outer s H vs Q E ⟨hr.r.deeper _, hr.g⟩ hsp
  have I := inv_start (CX := L2.CX P w) (E := E) S hr.r.hd e0 nl r z
  refine wpAny_mono (ht.run [] s1 (start N vs) H _ I hq) (fun fl s' hs => ?_) fun _ _ hs => hs
  cases fl with
  | ret u =>
    obtain ⟨v, σ', H', J, rv, q⟩ := hs
    exact ⟨v, H', J.os, J.bare, J.base, J.hok, rv, q⟩
  | next =>
    obtain ⟨σ', H', J, q⟩ := hs
    exact ⟨.non, H', J.os, J.bare, J.base, J.hok, rfl, q⟩
  | brk => exact hs.elim fun _ z => z.elim fun _ z => z.2.elim
  | cont => exact hs.elim fun _ z => z.elim fun _ z => z.2.elim
section
variable {R : RC} {W : WX} {X : Cx} {e : Expr} {es : List Expr} {pos p : Pos} {t : TA}
theorem run_fnG {k : Nat} {f : Addr} {fd : FuncData} {ps : List Str} {sp : Sp} {pins : List (Addr × Obj)} {σ : L2.St} {H : Hp} {s : Shared} {Q : VK} {us : List Value} {vs : List V} (F : FnG X.prog X.w X.K X.mg X.base k f fd ps sp) (hr : RoomG k X.A) (hb : Binds X.K fd ps []) (tk : Takes X W) (I : L2.Inv X pins σ H s) (r : Vals vs us)
    (h : sp vs H Q fun cls d H' => W cls d σ H') : wpAny (model X.prog X.w) X.A (call (.ref f) us) (EP X pins σ Q) X.xe s := by
  have hl : (us ++ []).length = ps.length := by rw [List.append_nil, ← r.length]; exact F.len _ _ _ _ h
  have hb' := hb s us I.kIn hl
  rw [List.append_nil] at hb'
  refine wpAny_call (codeAny_mono (F.run X.A X.stack s H ⟨us, []⟩ us vs Q _ hr I.env0 hb' r h) fun q s' hq => ?_)
  cases q with
  | error x => exact tk _ _ (XE.of_call I (fun _ _ _ z => z) hq)
  | ok fl =>
    cases fl with
    | ret u => exact I.after hq
    | next => exact hq.elim
    | brk => exact hq.elim
    | cont => exact hq.elim
/-- f(..), f a def of the module -/
theorem pe_callG {x : Str} {k : Nat} {f : Addr} {fd : FuncData} {ps : List Str} {sp : Sp} (F : FnG X.prog X.w X.K X.mg X.base k f fd ps sp) (hr : RoomG k X.A) (hg : Gl X x) (hm : X.mg x = some (.ref f)) (hk : PySem.W.keepIn X.K (.ref f) = true) (hb : Binds X.K fd ps []) (tk : Takes X W) (ha : PA X (e :: es) t)
    (hs : ((e :: es).all fun e => !isStar e) = true) (hdb : (x == ("__debug__" : Str)) = false) : PE X (.Call (.Name x p) (e :: es) [] pos) (fun σ H Q => t σ H fun vs H1 => sp vs H1 Q fun cls d H' => W cls d σ H') := by
  have h2 : (!isStar e) = true ∧ (es.all fun e => !isStar e) = true := by
    rw [List.all_cons, Bool.and_eq_true] at hs
    exact hs
  refine ⟨fun pins s σ H Q I h => ?_⟩
  refine wpAny_Call_Name_kw (ld_glob I hg hm ?_ hdb)
  exact PySem.W.callWith_K (h₀ := X.base) I.ok.mod.kin hk (thn (ha.run pos pins s σ H _ I h) fun us s1 ⟨vs, H1, I1, r, q⟩ => ⟨I1.kIn, run_fnG F hr hb tk I1 r q⟩) (starEach_plain (by simpa using h2.1)) (star_any h2.2)
/-- all by keywords, named ns as they are written; pm: which of them is each parameter's -/
def BindsK (K : PySem.W.Frag) (fd : FuncData) (ps ns : List Str) (pm : List Nat) : Prop := ∀ (s : Shared) (ws : List Value), K.In s.heap → ws.length = ns.length → BindsTo s fd ⟨[], ns.zip ws⟩ (ps.zip (permL pm ws))
theorem permL_vals : ∀ {pm : List Nat} {vs : List V} {us : List Value}, Vals vs us → Vals (permL pm vs) (permL pm us)
  | [], vs, us, r => .nil
  | i :: pm, vs, us, r => by
    rw [permL, permL]
    cases q : vs[i]? with
    | none =>
      have q2 : us[i]? = none := by
        rw [List.getElem?_eq_none_iff] at q ⊢
        rw [← r.length]; exact q
      rw [q2]
      exact permL_vals r
    | some v =>
      obtain ⟨u, q2, ru⟩ := r.get q
      rw [q2]
      exact .cons ru (permL_vals r)
theorem run_fnGK {k : Nat} {f : Addr} {fd : FuncData} {ps ns : List Str} {pm : List Nat} {sp : Sp} {pins : List (Addr × Obj)} {σ : L2.St} {H : Hp} {s : Shared} {Q : VK} {ws : List Value} {zs : List V} (F : FnG X.prog X.w X.K X.mg X.base k f fd ps sp) (hr : RoomG k X.A) (hb : BindsK X.K fd ps ns pm) (tk : Takes X W) (I : L2.Inv X pins σ H s) (r : Vals zs ws) (hl : ws.length = ns.length)
    (h : sp (permL pm zs) H Q fun cls d H' => W cls d σ H') : wpAny (model X.prog X.w) X.A (call (.ref f) [] (ns.zip ws)) (EP X pins σ Q) X.xe s := by
  have hb' := hb s ws I.kIn hl
  refine wpAny_call (codeAny_mono (F.run X.A X.stack s H ⟨[], ns.zip ws⟩ (permL pm ws) (permL pm zs) Q _ hr I.env0 hb' (permL_vals r) h) fun q s' hq => ?_)
  cases q with
  | error x => exact tk _ _ (XE.of_call I (fun _ _ _ z => z) hq)
  | ok fl =>
    cases fl with
    | ret u => exact I.after hq
    | next => exact hq.elim
    | brk => exact hq.elim
    | cont => exact hq.elim
/-- f(k = e, ..), nothing by position -/
theorem pe_callKG {x : Str} {k : Nat} {f : Addr} {fd : FuncData} {ps ns : List Str} {pm : List Nat} {sp : Sp} {kws : List Keyword} {tk0 : TA} (F : FnG X.prog X.w X.K X.mg X.base k f fd ps sp) (hr : RoomG k X.A) (hg : Gl X x) (hm : X.mg x = some (.ref f)) (hk : PySem.W.keepIn X.K (.ref f) = true) (hb : BindsK X.K fd ps ns pm) (tk : Takes X W) (hkw : PK X kws tk0)
    (hdb : (x == ("__debug__" : Str)) = false) (hall : (backToKw pos (keywordEach kws X.env)).all (·.1.isSome) = true) (hks : (backToKw pos (keywordEach kws X.env)).filterMap (·.1) = ns)
    (hpl : ((backTo pos (starEach [] X.env)).any (·.1) || (backToKw pos (keywordEach kws X.env)).any (·.1.isNone)) = false) :
    PE X (.Call (.Name x p) [] kws pos) (fun σ H Q => tk0 σ H fun zs H1 => zs.length = ns.length ∧ sp (permL pm zs) H1 Q fun cls d H' => W cls d σ H') := by
  refine ⟨fun pins s σ H Q I h => ?_⟩
  refine wpAny_Call_Name_kw (ld_glob I hg hm ?_ hdb)
  refine PySem.W.callWith_KW0 (h₀ := X.base) I.ok.mod.kin hk hall (thn (hkw.run pos pins s σ H _ I h) fun ws s1 ⟨zs, H1, I1, r, hl, q⟩ => ⟨I1.kIn, ?_⟩) hpl
  rw [hks]
  exact run_fnGK F hr hb tk I1 r (r.length.symm.trans hl) q
/-- f(..), f a local name -/
theorem pe_callVG {x : Str} {i : Nat} {k : Addr → Sp → Prop} {ta : TA} (hN : X.N[i]? = some x) (hv : Vis X.env.scope x) (hd : (x == ("__debug__" : Str)) = false) (hcd : (x == ("__classdict__" : Str)) = false) (tk : Takes X W) (ha : PA X (e :: es) ta) (hs : ((e :: es).all fun e => !isStar e) = true)
    (hk : ∀ f sp, k f sp → ∃ (j : Nat) (fd : FuncData) (ps : List Str), FnG X.prog X.w X.K X.mg X.base j f fd ps sp ∧ RoomG j X.A ∧ PySem.W.keepIn X.K (.ref f) = true ∧ Binds X.K fd ps []) :
    PE X (.Call (.Name x p) (e :: es) [] pos) (fun σ H Q => ∃ f sp, σ[i]? = some (some (.ref f)) ∧ k f sp ∧ ta σ H fun vs H1 => sp vs H1 Q fun cls d H' => W cls d σ H') := by
  have h2 : (!isStar e) = true ∧ (es.all fun e => !isStar e) = true := by
    rw [List.all_cons, Bool.and_eq_true] at hs
    exact hs
  refine ⟨fun pins s σ H Q I ⟨f, sp, hσ, hf, h⟩ => ?_⟩
  obtain ⟨j, fd, ps, F, hr, hkp, hb⟩ := hk f sp hf
  refine wpAny_Call_Name_kw (thn ((pe_var (pos := p) hN hv hd hcd).run pins s σ H (fun v H1 => v = .ref f ∧ H1 = H) I ⟨.ref f, hσ, rfl, rfl⟩) fun u s1 ⟨v, H1, I1, r1, q1⟩ => ?_)
  obtain ⟨rfl, rfl⟩ := q1
  cases r1
  exact PySem.W.callWith_K (h₀ := X.base) I1.ok.mod.kin hkp (thn (ha.run pos pins s1 σ _ _ I1 h) fun us s2 ⟨vs, H2, I2, r, q⟩ => ⟨I2.kIn, run_fnG F hr hb tk I2 r q⟩) (starEach_plain (by simpa using h2.1)) (star_any h2.2)
end
/-! ### the promise by a data function -/
def noL : Addr → Bool := fun _ => false
def spF (R : RC) (n : Nat) (φ : M Rv) : Sp := fun vs H Q E => ∃ (C : Cc) (args : Env), vs.length = n ∧ EnvOk R C noL H args (vs.map some) ∧ match φ args with
  | .ok r outs => ∀ v L' H', EnvOk R C L' H' outs (vs.map some) → Step C noL H L' H' → RvOk R C L' H' outs (vs.map some) v r → Q v H'
  | .exc x outs => ∀ cls d L' H', EnvOk R C L' H' outs (vs.map some) → Step C noL H L' H' → XOk R C L' H' x cls d → E cls d H'
  | .bad => False
theorem spF.imp {R : RC} {n : Nat} {φ φ' : M Rv} (h : ∀ args, φ' args = .bad ∨ φ' args = φ args) : ∀ vs H Q E, spF R n φ' vs H Q E → spF R n φ vs H Q E := fun vs H Q E ⟨C, args, hl, he, hm⟩ => by
  refine ⟨C, args, hl, he, ?_⟩
  rcases h args with z | z
  · rw [z] at hm; exact hm.elim
  · rw [← z]; exact hm
/-! ### arguments -/
def AgOk (R : RC) (Hv : Hp) (σ : L2.St) : Ag → V → Prop
  | .d d, v => Rep R Hv d v
  | .io i, v => σ[i]? = some (some v)
def AgsOk (R : RC) (Hv : Hp) (σ : L2.St) : List Ag → List V → Prop
  | [], vs => vs = []
  | a :: r, vs => ∃ v ws, vs = v :: ws ∧ AgOk R Hv σ a v ∧ AgsOk R Hv σ r ws
theorem AgOk.le {R : RC} {H H' : Hp} {σ : L2.St} (e : Le H H') : ∀ {a : Ag} {v : V}, AgOk R H σ a v → AgOk R H' σ a v
  | .d d, v, h => Rep.le e d v h
  | .io i, v, h => h
theorem AgsOk.length {R : RC} {H : Hp} {σ : L2.St} : ∀ {as : List Ag} {vs : List V}, AgsOk R H σ as vs → vs.length = as.length
  | [], vs, h => by have e : vs = [] := h; rw [e]; rfl
  | a :: r, vs, h => by
    obtain ⟨v, ws, rfl, _, h2⟩ := h
    rw [List.length_cons, List.length_cons, AgsOk.length h2]
theorem AgsOk.get {R : RC} {H : Hp} {σ : L2.St} : ∀ {as : List Ag} {vs : List V} {q : Nat} {a : Ag}, AgsOk R H σ as vs → as[q]? = some a → ∃ v, vs[q]? = some v ∧ AgOk R H σ a v
  | [], _, _, _, _, e => by simp at e
  | a :: r, vs, 0, b, h, e => by
    obtain ⟨v, ws, rfl, h1, _⟩ := h
    have : a = b := by simpa using e
    subst this
    exact ⟨v, rfl, h1⟩
  | a :: r, vs, q + 1, b, h, e => by
    obtain ⟨v, ws, rfl, _, h2⟩ := h
    obtain ⟨u, g1, g2⟩ := AgsOk.get (q := q) h2 (by simpa using e)
    exact ⟨u, by simpa using g1, g2⟩
theorem agsIn_len {ρ : Env} : ∀ {as : List Ag} {args : List Sl}, agsIn ρ as = some args → args.length = as.length
  | [], args, h => by cases h; rfl
  | .d d :: r, args, h => by
    unfold agsIn at h
    cases q : agsIn ρ r with
    | none => rw [q] at h; cases h
    | some xs =>
      rw [q] at h
      cases h
      rw [List.length_cons, List.length_cons, agsIn_len q]
  | .io i :: r, args, h => by
    unfold agsIn at h
    cases q : agsIn ρ r with
    | none => rw [q] at h; split at h <;> cases h
    | some xs =>
      rw [q] at h
      split at h <;> first | (cases h; rw [List.length_cons, List.length_cons, agsIn_len q]) | cases h
theorem agsIn_get {ρ : Env} : ∀ {as : List Ag} {args : List Sl} {q : Nat} {a : Ag}, agsIn ρ as = some args → as[q]? = some a → match a with
    | .d d => args[q]? = some (.im d)
    | .io j => ∃ xs, args[q]? = some (.io xs) ∧ (ρ[j]? = some (.ow xs) ∨ ρ[j]? = some (.io xs))
  | [], _, _, _, _, e => by simp at e
  | .d d :: r, args, q, a, h, e => by
    unfold agsIn at h
    cases q' : agsIn ρ r with
    | none => rw [q'] at h; cases h
    | some xs =>
      rw [q'] at h
      cases h
      cases q with
      | zero =>
        have : Ag.d d = a := by simpa using e
        subst this
        rfl
      | succ q =>
        have ih := agsIn_get (q := q) (a := a) q' (by simpa using e)
        cases a with
        | d d => simpa using ih
        | io j => simpa using ih
  | .io i :: r, args, q, a, h, e => by
    unfold agsIn at h
    cases q' : agsIn ρ r with
    | none => rw [q'] at h; split at h <;> cases h
    | some xs =>
      rw [q'] at h
      split at h
      · rename_i ys hy
        cases h
        cases q with
        | zero =>
          have : Ag.io i = a := by simpa using e
          subst this
          exact ⟨ys, rfl, .inl hy⟩
        | succ q =>
          have ih := agsIn_get (q := q) (a := a) q' (by simpa using e)
          cases a with
          | d d => simpa using ih
          | io j => simpa using ih
      · rename_i ys hy
        cases h
        cases q with
        | zero =>
          have : Ag.io i = a := by simpa using e
          subst this
          exact ⟨ys, rfl, .inr hy⟩
        | succ q =>
          have ih := agsIn_get (q := q) (a := a) q' (by simpa using e)
          cases a with
          | d d => simpa using ih
          | io j => simpa using ih
      · cases h
theorem mem_iosOf {j : Nat} : ∀ {as : List Ag} {q : Nat}, as[q]? = some (.io j) → j ∈ iosOf as
  | [], _, h => by simp at h
  | .d _ :: r, 0, h => by simp at h
  | .d _ :: r, q + 1, h => mem_iosOf (as := r) (q := q) (by simpa using h)
  | .io i :: r, 0, h => by
    have : i = j := by simpa using h
    subst this
    exact List.mem_cons_self
  | .io i :: r, q + 1, h => List.mem_cons_of_mem _ (mem_iosOf (as := r) (q := q) (by simpa using h))
theorem iosOf_uniq {j : Nat} : ∀ {as : List Ag} {q q' : Nat}, nodupB (iosOf as) = true → as[q]? = some (.io j) → as[q']? = some (.io j) → q = q'
  | [], _, _, _, h, _ => by simp at h
  | .d _ :: r, 0, _, _, h, _ => by simp at h
  | .d _ :: r, _ + 1, 0, _, _, h => by simp at h
  | .d _ :: r, q + 1, q' + 1, n, h, h' => by rw [iosOf_uniq (as := r) (q := q) (q' := q') n (by simpa using h) (by simpa using h')]
  | .io i :: r, 0, 0, _, _, _ => rfl
  | .io i :: r, 0, q' + 1, n, h, h' => by
    have e : i = j := by simpa using h
    subst e
    have m := mem_iosOf (as := r) (q := q') (by simpa using h')
    have n' : (!(iosOf r).contains i && nodupB (iosOf r)) = true := n
    rw [Bool.and_eq_true, Bool.not_eq_true'] at n'
    have := n'.1
    rw [List.contains_iff_mem.mpr m] at this
    cases this
  | .io i :: r, q + 1, 0, n, h, h' => by
    have e : i = j := by simpa using h'
    subst e
    have m := mem_iosOf (as := r) (q := q) (by simpa using h)
    have n' : (!(iosOf r).contains i && nodupB (iosOf r)) = true := n
    rw [Bool.and_eq_true, Bool.not_eq_true'] at n'
    have := n'.1
    rw [List.contains_iff_mem.mpr m] at this
    cases this
  | .io i :: r, q + 1, q' + 1, n, h, h' => by
    have n' : (!(iosOf r).contains i && nodupB (iosOf r)) = true := n
    rw [Bool.and_eq_true] at n'
    rw [iosOf_uniq (as := r) (q := q) (q' := q') n'.2 (by simpa using h) (by simpa using h')]
/-- what the slots are behind a call -/
structure OutRel (ρ ρ2 : Env) (as : List Ag) (outs : List Sl) : Prop where
  len : ρ2.length = ρ.length
  keep : ∀ j, j ∉ iosOf as → ρ2[j]? = ρ[j]?
  put : ∀ (q j : Nat), as[q]? = some (Ag.io j) → ∃ xs ys : List D, outs[q]? = some (Sl.io ys) ∧ ((ρ[j]? = some (Sl.ow xs) ∧ ρ2[j]? = some (Sl.ow ys)) ∨ (ρ[j]? = some (Sl.io xs) ∧ ρ2[j]? = some (Sl.io ys)))
theorem agsOut_rel : ∀ {as : List Ag} {outs : List Sl} {ρ ρ2 : Env}, nodupB (iosOf as) = true → agsOut ρ as outs = some ρ2 → OutRel ρ ρ2 as outs
  | [], [], ρ, ρ2, _, h => by
    cases h
    exact ⟨rfl, fun _ _ => rfl, fun q j h => by simp at h⟩
  | [], _ :: _, ρ, ρ2, _, h => by cases h
  | .d d :: r, [], ρ, ρ2, _, h => by cases h
  | .d d :: r, s :: outs, ρ, ρ2, n, h => by
    have ih := agsOut_rel (as := r) (outs := outs) (ρ := ρ) (ρ2 := ρ2) n h
    refine ⟨ih.len, ih.keep, fun q j hq => ?_⟩
    cases q with
    | zero => simp at hq
    | succ q =>
      obtain ⟨xs, ys, h1, h2⟩ := ih.put q j (by simpa using hq)
      exact ⟨xs, ys, by simpa using h1, h2⟩
  | .io i :: r, [], ρ, ρ2, _, h => by cases h
  | .io i :: r, .no :: outs, ρ, ρ2, _, h => by cases h
  | .io i :: r, .im _ :: outs, ρ, ρ2, _, h => by cases h
  | .io i :: r, .ow _ :: outs, ρ, ρ2, _, h => by cases h
  | .io i :: r, .io ys :: outs, ρ, ρ2, n, h => by
    have n' : (!(iosOf r).contains i && nodupB (iosOf r)) = true := n
    rw [Bool.and_eq_true, Bool.not_eq_true'] at n'
    have ni : i ∉ iosOf r := fun m => by
      have := n'.1
      rw [List.contains_iff_mem.mpr m] at this
      cases this
    unfold agsOut at h
    have go : ∀ {s s' : Sl}, ρ[i]? = some s → agsOut (ρ.set i s') r outs = some ρ2 → (∀ xs, s = .ow xs → s' = .ow ys) → (∀ xs, s = .io xs → s' = .io ys) → ((∃ xs, s = .ow xs) ∨ ∃ xs, s = .io xs) → OutRel ρ ρ2 (.io i :: r) (.io ys :: outs) := fun {s s'} e h e1 e2 e3 => by
      have ih := agsOut_rel n'.2 h
      have hl : i < ρ.length := (List.getElem?_eq_some_iff.mp e).1
      have hi : ρ2[i]? = some s' := by
        rw [ih.keep i ni, List.getElem?_set_self hl]
      refine ⟨by rw [ih.len, List.length_set], fun j hj => ?_, fun q j hq => ?_⟩
      · have h1 : j ≠ i := fun z => hj (by rw [z]; exact List.mem_cons_self)
        rw [ih.keep j fun z => hj (List.mem_cons_of_mem _ z), List.getElem?_set_ne h1.symm]
      · cases q with
        | zero =>
          have : i = j := by simpa using hq
          subst this
          rcases e3 with ⟨xs, rfl⟩ | ⟨xs, rfl⟩
          · exact ⟨xs, ys, rfl, .inl ⟨e, by rw [hi, e1 xs rfl]⟩⟩
          · exact ⟨xs, ys, rfl, .inr ⟨e, by rw [hi, e2 xs rfl]⟩⟩
        | succ q =>
          have hq' : r[q]? = some (.io j) := by simpa using hq
          have h1 : j ≠ i := fun z => ni (by rw [← z]; exact mem_iosOf hq')
          obtain ⟨xs, zs, g1, g2⟩ := ih.put q j hq'
          rw [List.getElem?_set_ne h1.symm] at g2
          exact ⟨xs, zs, by simpa using g1, g2⟩
    split at h
    · rename_i xs e
      exact go e h (fun _ _ => rfl) (fun _ z => by cases z) (.inl ⟨xs, rfl⟩)
    · rename_i xs e
      exact go e h (fun _ z => by cases z) (fun _ _ => rfl) (.inr ⟨xs, rfl⟩)
    · cases h
end Pu
/-! Pu, part 11: a call by data functions. -/
namespace Pu
open PySem PySem.Spec PyProof.Rows L2
section
variable {R : RC} {W : WX} {C : Cc} {L : Addr → Bool} {H : Hp} {ρ : Env} {σ : L2.St}
def tAs (R : RC) (W : WX) (m : M (List Ag)) : TA := fun σ H Q => ∃ C L ρ, EnvOk R C L H ρ σ ∧ RunK R W m σ H C L ρ fun as _ L' H' => ∀ vs, AgsOk R (vis C L' H') σ as vs → Q vs H'
theorem pas_nl {X : Cx} : PA X [] (tAs R W (mret [])) := PA.imp pa_nil fun σ H Q ⟨C, L, ρ, E, h⟩ => h.ret L H E (.refl _ _ _) [] rfl
theorem AgsOk.le {H H' : Hp} (e : Le H H') : ∀ {as : List Ag} {vs : List V}, AgsOk R H σ as vs → AgsOk R H' σ as vs
  | [], vs, h => h
  | a :: r, vs, h => by
    obtain ⟨v, ws, rfl, h1, h2⟩ := h
    exact ⟨v, ws, rfl, h1.le e, AgsOk.le e h2⟩
theorem pas_e {X : Cx} {e : Expr} {es : List Expr} {m : M D} {ms : M (List Ag)} (ha : PE X e (tD R W m)) (hr : PA X es (tAs R W ms)) (hs : isStar e = false) : PA X (e :: es) (tAs R W (mbind m fun x => mbind ms fun xs => mret (.d x :: xs))) :=
  PA.imp (pa_cons ha hr (starEach_plain hs)) fun σ H Q ⟨C, L, ρ, E, h⟩ => by
    refine ⟨C, L, ρ, E, h.bind.mono fun x ρ1 L1 H1 E1 S1 k v hv => ?_⟩
    refine ⟨C, L1, ρ1, E1, k.bind.mono fun xs ρ2 La H2 E2 S2 k2 vs hvs => ?_⟩
    exact k2.ret La H2 E2 (.refl _ _ _) (.refl _ _ _) S2 _ ⟨v, vs, rfl, Rep.le S2.vis _ _ hv, hvs⟩
theorem pas_io {X : Cx} {x : Str} {p : Pos} {i : Nat} {es : List Expr} {ms : M (List Ag)} (hN : X.N[i]? = some x) (hv : Vis X.env.scope x) (hd : (x == ("__debug__" : Str)) = false) (hcd : (x == ("__classdict__" : Str)) = false) (hr : PA X es (tAs R W ms)) :
    PA X (.Name x p :: es) (tAs R W (mbind (own i) fun _ => mbind ms fun xs => mret (.io i :: xs))) :=
  PA.imp (pa_cons (pe_var hN hv hd hcd) hr (by rfl)) fun σ H Q ⟨C, L, ρ, E, h⟩ => by
    obtain ⟨a, vs0, xs0, hi, _, _, _, _, k0⟩ := run_own E h.bind
    have k0 := k0 L H E (.refl _ _ _)
    refine ⟨.ref a, hi, C, L, ρ, E, k0.bind.mono fun xs ρ2 La H2 E2 S2 k2 vs hvs => ?_⟩
    exact k2.ret La H2 E2 (.refl _ _ _) (.refl _ _ _) S2 _ ⟨.ref a, vs, rfl, hi, hvs⟩
/-! ### the callee's view, and back -/
def ioAt (as : List Ag) (σ : L2.St) (a : Addr) : Bool := as.any fun g => match g with
  | .io i => decide (slAt σ i = some (.ref a))
  | .d _ => false
theorem ioAt_iff {as : List Ag} {a : Addr} : ioAt as σ a = true ↔ ∃ q i : Nat, as[q]? = some (Ag.io i) ∧ slAt σ i = some (.ref a) := by
  unfold ioAt
  rw [List.any_eq_true]
  constructor
  · rintro ⟨g, hm, h⟩
    obtain ⟨q, hq⟩ := List.mem_iff_getElem?.mp hm
    cases g with
    | d _ => cases h
    | io i => exact ⟨q, i, hq, of_decide_eq_true h⟩
  · rintro ⟨q, i, hq, h⟩
    exact ⟨_, List.mem_iff_getElem?.mpr ⟨q, hq⟩, decide_eq_true h⟩
def vAddr : Option V → Addr
  | some (.ref a) => a
  | _ => 0
def calleeC (C : Cc) (L : Addr → Bool) (H : Hp) (σ : L2.St) (as : List Ag) (vs : List V) : Cc where
  M0 := fun a => C.M0 a || L a
  O0 := ioAt as σ
  io := fun q => vAddr vs[q]?
  P := fun a => if ioAt as σ a = true then none else H a
theorem calleeC_vis {as : List Ag} {vs : List V} {L' : Addr → Bool} {H' : Hp} : vis (calleeC C L H σ as vs) L' H' = vis C (fun a => L a || L' a) H' := by
  funext a
  unfold vis hid calleeC
  simp only [Bool.or_assoc]
theorem vis_noL : vis C (fun a => L a || noL a) H = vis C L H := by
  funext a
  unfold vis hid noL
  simp
theorem slAt_map {vs : List V} {q : Nat} {v : V} (h : vs[q]? = some v) : slAt (vs.map some) q = some v := slAt_of (by rw [List.getElem?_map, h]; rfl)
/-- an own slot's list -/
theorem own_at (E : EnvOk R C L H ρ σ) {i : Nat} {xs : List D} (h : ρ[i]? = some (.ow xs) ∨ ρ[i]? = some (.io xs)) : ∃ a vs, slAt σ i = some (.ref a) ∧ H a = some (.lst vs) ∧ Reps R (vis C L H) xs vs ∧ (C.M0 a || L a) = true ∧ C.P a = none := by
  rcases h with h | h
  · obtain ⟨a, vs, e1, l, ha, r⟩ := E.sl i _ h
    exact ⟨a, vs, e1, ha, r, by rw [l, Bool.or_true], (E.fr a l).2.1⟩
  · obtain ⟨e1, o, vs, ha, r⟩ := E.sl i _ h
    exact ⟨_, vs, e1, ha, r, by rw [(E.o0 _ o).1, Bool.true_or], (E.o0 _ o).2⟩
/-- two slots with lists of their own hold different ones -/
theorem own_ne (E : EnvOk R C L H ρ σ) {i j : Nat} {xs ys : List D} (hij : i ≠ j) (h : ρ[i]? = some (.ow xs) ∨ ρ[i]? = some (.io xs)) (h' : ρ[j]? = some (.ow ys) ∨ ρ[j]? = some (.io ys)) : slAt σ i ≠ slAt σ j := by
  rcases h with h | h <;> rcases h' with h' | h'
  · exact E.inj i j xs ys hij h h'
  · obtain ⟨a, vs, e1, l, _⟩ := E.sl i _ h
    obtain ⟨e2, o, _⟩ := E.sl j _ h'
    rw [e1, e2]
    intro z
    cases z
    have := (E.o0 _ o).1
    rw [(E.fr _ l).1] at this
    cases this
  · obtain ⟨a, vs, e1, l, _⟩ := E.sl j _ h'
    obtain ⟨e2, o, _⟩ := E.sl i _ h
    rw [e1, e2]
    intro z
    cases z
    have := (E.o0 _ o).1
    rw [(E.fr _ l).1] at this
    cases this
  · obtain ⟨e1, _⟩ := E.sl i _ h
    obtain ⟨e2, _⟩ := E.sl j _ h'
    rw [e1, e2]
    intro z
    exact E.ioj i j xs ys hij h h' (V.ref.inj (Option.some.inj z))
theorem of_iosOf {j : Nat} : ∀ {as : List Ag}, j ∈ iosOf as → ∃ q : Nat, as[q]? = some (Ag.io j)
  | [], hm => by cases hm
  | .d d :: r, hm => by
    obtain ⟨q, hq⟩ := of_iosOf (as := r) hm
    exact ⟨q + 1, by simpa using hq⟩
  | .io i :: r, hm => by
    rcases List.mem_cons.mp hm with z | z
    · subst z
      exact ⟨0, rfl⟩
    · obtain ⟨q, hq⟩ := of_iosOf z
      exact ⟨q + 1, by simpa using hq⟩
theorem call_in (E : EnvOk R C L H ρ σ) {as : List Ag} {vs : List V} {args : List Sl} (hv : AgsOk R (vis C L H) σ as vs) (ha : agsIn ρ as = some args) (nd : nodupB (iosOf as) = true) : EnvOk R (calleeC C L H σ as vs) noL H args (vs.map some) := by
  have hl := agsIn_len ha
  have hl2 := hv.length
  have ioM : ∀ a, ioAt as σ a = true → (C.M0 a || L a) = true ∧ C.P a = none := fun a h => by
    obtain ⟨q, i, hq, hs⟩ := ioAt_iff.mp h
    obtain ⟨xs, _, ho⟩ := agsIn_get ha hq
    obtain ⟨b, bs, e1, _, _, h1, h2⟩ := own_at E ho
    rw [hs] at e1
    cases e1
    exact ⟨h1, h2⟩
  have at_ : ∀ q s, args[q]? = some s → ∃ g v, as[q]? = some g ∧ vs[q]? = some v ∧ AgOk R (vis C L H) σ g v := fun q s h => by
    have hq : q < as.length := by
      have := (List.getElem?_eq_some_iff.mp h).1
      omega
    obtain ⟨v, h1, h2⟩ := hv.get (List.getElem?_eq_getElem hq)
    exact ⟨_, v, List.getElem?_eq_getElem hq, h1, h2⟩
  refine ⟨by rw [hl, List.length_map, hl2], fun q s hq => ?_, fun i j xs ys _ h1 _ => ?_, fun i j xs ys hij h1 h2 => ?_, fun a z => (by cases z), fun a h => ⟨(ioM a h).1, if_pos h⟩, fun a o h => ?_, fun a h => ?_⟩
  · obtain ⟨g, v, hg, hv1, ok⟩ := at_ q s hq
    have ev : vis (calleeC C L H σ as vs) noL H = vis C L H := calleeC_vis.trans vis_noL
    have get := agsIn_get ha hg
    rw [slAt_map hv1]
    cases g with
    | d d =>
      have e : args[q]? = some (.im d) := get
      rw [e] at hq
      cases hq
      exact ⟨v, rfl, by rw [ev]; exact ok⟩
    | io i =>
      obtain ⟨xs, e, ho⟩ := get
      rw [e] at hq
      cases hq
      obtain ⟨a, ws, e1, h2, r, _, _⟩ := own_at E ho
      have ok' : σ[i]? = some (some v) := ok
      rw [slAt_of ok'] at e1
      cases e1
      have ea : (calleeC C L H σ as vs).io q = a := by
        show vAddr vs[q]? = a
        rw [hv1]
        rfl
      refine ⟨by rw [ea], by rw [ea]; exact ioAt_iff.mpr ⟨q, i, hg, slAt_of ok'⟩, ws, by rw [ea]; exact h2, by rw [ev]; exact r⟩
  · obtain ⟨g, v, hg, hv1, ok⟩ := at_ i _ h1
    have get := agsIn_get ha hg
    cases g with
    | d d =>
      have e : args[i]? = some (.im d) := get
      rw [e] at h1
      cases h1
    | io k =>
      obtain ⟨xs, e, ho⟩ := get
      rw [e] at h1
      cases h1
  · obtain ⟨g, v, hg, hv1, ok⟩ := at_ i _ h1
    obtain ⟨g2, w, hg2, hw1, ok2⟩ := at_ j _ h2
    have get := agsIn_get ha hg
    have get2 := agsIn_get ha hg2
    cases g with
    | d d =>
      have e : args[i]? = some (.im d) := get
      rw [e] at h1
      cases h1
    | io k =>
      cases g2 with
      | d d =>
        have e : args[j]? = some (.im d) := get2
        rw [e] at h2
        cases h2
      | io k2 =>
        obtain ⟨xs1, _, ho⟩ := get
        obtain ⟨xs2, _, ho2⟩ := get2
        have hk : k ≠ k2 := fun z => by
          subst z
          exact hij (iosOf_uniq nd hg hg2)
        have := own_ne E hk ho ho2
        have o1 : σ[k]? = some (some v) := ok
        have o2 : σ[k2]? = some (some w) := ok2
        obtain ⟨a, _, e1, _⟩ := own_at E ho
        obtain ⟨b, _, e2, _⟩ := own_at E ho2
        rw [slAt_of o1] at e1
        rw [slAt_of o2] at e2
        cases e1
        cases e2
        show vAddr vs[i]? ≠ vAddr vs[j]?
        rw [hv1, hw1]
        intro z
        have z' : a = b := z
        subst z'
        exact this (by rw [slAt_of o1, slAt_of o2])
  · have h' : (if ioAt as σ a = true then none else H a) = some o := h
    split at h'
    · cases h'
    · exact h'
  · have h' : (C.M0 a || L a) = true := h
    rw [Bool.or_eq_true] at h'
    rcases h' with z | z
    · exact E.lv a z
    · exact (E.fr a z).2.2
theorem call_out (E : EnvOk R C L H ρ σ) {as : List Ag} {vs : List V} {args outs : List Sl} {ρ2 : Env} {L' : Addr → Bool} {H' : Hp} (hv : AgsOk R (vis C L H) σ as vs) (ha : agsIn ρ as = some args) (nd : nodupB (iosOf as) = true) (hr : OutRel ρ ρ2 as outs)
    (E' : EnvOk R (calleeC C L H σ as vs) L' H' outs (vs.map some)) : EnvOk R C (fun a => L a || L' a) H' ρ2 σ ∧ Step C L H (fun a => L a || L' a) H' := by
  have ioM : ∀ a, ioAt as σ a = true → (C.M0 a || L a) = true ∧ C.P a = none := fun a h => by
    obtain ⟨q, i, hq, hs⟩ := ioAt_iff.mp h
    obtain ⟨xs, _, ho⟩ := agsIn_get ha hq
    obtain ⟨b, bs, e1, _, _, h1, h2⟩ := own_at E ho
    rw [hs] at e1
    cases e1
    exact ⟨h1, h2⟩
  have stay : ∀ a o, H a = some o → ioAt as σ a = false → H' a = some o := fun a o h n => E'.pr a o (by
    show (if ioAt as σ a = true then none else H a) = some o
    rw [n]
    exact h)
  have notio : ∀ a, C.M0 a = false → L a = false → ioAt as σ a = false := fun a h1 h2 => by
    cases e : ioAt as σ a with
    | false => rfl
    | true =>
      have := (ioM a e).1
      rw [h1, h2] at this
      cases this
  have fresh : ∀ a, L' a = true → C.M0 a = false ∧ L a = false ∧ H a = none ∧ H' a ≠ none := fun a l => by
    obtain ⟨h1, h2, h3⟩ := E'.fr a l
    have h1' : (C.M0 a || L a) = false := h1
    rw [Bool.or_eq_false_iff] at h1'
    have h2' : (if ioAt as σ a = true then none else H a) = none := h2
    rw [notio a h1'.1 h1'.2] at h2'
    exact ⟨h1'.1, h1'.2, h2', h3⟩
  have S : Step C L H (fun a => L a || L' a) H' := ⟨fun a h => by
    have h' : (L a || L' a) = true := h
    rw [Bool.or_eq_true] at h'
    rcases h' with z | z
    · exact .inl z
    · exact .inr (fresh a z).2.2.1, fun a o h m l => stay a o h (notio a m l)⟩
  have ev := S.vis
  have live : ∀ a, (C.M0 a || L a) = true → H' a ≠ none := fun a h => E'.lv a h
  have slot : ∀ j s, ρ2[j]? = some s → SlOk R C (fun a => L a || L' a) H' j (slAt σ j) s := fun j s hj => by
    by_cases hm : j ∈ iosOf as
    · obtain ⟨q, hq⟩ := of_iosOf hm
      obtain ⟨xs, ys, ho, hk⟩ := hr.put q j hq
      obtain ⟨v, hv1, ok⟩ := hv.get hq
      have ok' : σ[j]? = some (some v) := ok
      have so := E'.sl q _ ho
      rw [slAt_map hv1] at so
      obtain ⟨e1, _, ws, hw, r⟩ := so
      rw [calleeC_vis] at r
      cases e1
      rcases hk with ⟨k1, k2⟩ | ⟨k1, k2⟩
      · rw [k2] at hj
        cases hj
        obtain ⟨b, bs, e2, l, _⟩ := E.sl j _ k1
        rw [slAt_of ok'] at e2
        refine ⟨_, ws, slAt_of ok', ?_, hw, r⟩
        cases e2
        show (L _ || L' _) = true
        rw [l, Bool.true_or]
      · rw [k2] at hj
        cases hj
        obtain ⟨e2, o, _⟩ := E.sl j _ k1
        rw [slAt_of ok'] at e2
        refine ⟨by rw [slAt_of ok']; exact e2, o, ws, ?_, r⟩
        have : (calleeC C L H σ as vs).io q = C.io j := by
          exact V.ref.inj (Option.some.inj e2)
        rw [← this]
        exact hw
    · rw [hr.keep j hm] at hj
      have so := E.sl j s hj
      -- its list is none of those that were handed over
      have other : ∀ xs a, (ρ[j]? = some (.ow xs) ∨ ρ[j]? = some (.io xs)) → slAt σ j = some (.ref a) → ioAt as σ a = false := fun xs a ho hs => by
        cases e : ioAt as σ a with
        | false => rfl
        | true =>
          obtain ⟨q, i, hq, hs2⟩ := ioAt_iff.mp e
          obtain ⟨ys, _, ho2⟩ := agsIn_get ha hq
          have : i ≠ j := fun z => by
            subst z
            exact hm (mem_iosOf hq)
          exact absurd (hs2.trans hs.symm) (own_ne E this ho2 ho)
      cases s with
      | no => trivial
      | im d =>
        obtain ⟨x, e1, r⟩ := so
        exact ⟨x, e1, r.le ev⟩
      | ow xs =>
        obtain ⟨a, bs, e1, l, hb, r⟩ := so
        exact ⟨a, bs, e1, by show (L a || L' a) = true; rw [l, Bool.true_or], stay a _ hb (other xs a (.inl hj) e1), r.le ev⟩
      | io xs =>
        obtain ⟨e1, o, bs, hb, r⟩ := so
        exact ⟨e1, o, bs, stay _ _ hb (other xs _ (.inr hj) e1), r.le ev⟩
  have back : ∀ (j : Nat) (ys : List D), ρ2[j]? = some (Sl.ow ys) → ∃ xs : List D, ρ[j]? = some (Sl.ow xs) := fun j ys h => by
    by_cases hm : j ∈ iosOf as
    · obtain ⟨q, hq⟩ := of_iosOf hm
      obtain ⟨xs, ys', _, hk⟩ := hr.put q j hq
      rcases hk with ⟨k1, k2⟩ | ⟨k1, k2⟩
      · exact ⟨xs, k1⟩
      · rw [k2] at h; cases h
    · rw [hr.keep j hm] at h
      exact ⟨ys, h⟩
  have backI : ∀ (j : Nat) (ys : List D), ρ2[j]? = some (Sl.io ys) → ∃ xs : List D, ρ[j]? = some (Sl.io xs) := fun j ys h => by
    by_cases hm : j ∈ iosOf as
    · obtain ⟨q, hq⟩ := of_iosOf hm
      obtain ⟨xs, ys', _, hk⟩ := hr.put q j hq
      rcases hk with ⟨k1, k2⟩ | ⟨k1, k2⟩
      · rw [k2] at h; cases h
      · exact ⟨xs, k1⟩
    · rw [hr.keep j hm] at h
      exact ⟨ys, h⟩
  refine ⟨⟨by rw [hr.len, E.len], slot, fun i j xs ys hij h1 h2 => ?_, fun i j xs ys hij h1 h2 => ?_, fun a l => ?_, E.o0, fun a o h => ?_, fun a h => live a (by rw [h, Bool.true_or])⟩, S⟩
  · obtain ⟨_, q1⟩ := back i xs h1
    obtain ⟨_, q2⟩ := back j ys h2
    exact E.inj i j _ _ hij q1 q2
  · obtain ⟨_, q1⟩ := backI i xs h1
    obtain ⟨_, q2⟩ := backI j ys h2
    exact E.ioj i j _ _ hij q1 q2
  · have l' : (L a || L' a) = true := l
    rw [Bool.or_eq_true] at l'
    rcases l' with z | z
    · exact ⟨(E.fr a z).1, (E.fr a z).2.1, live a (by rw [z, Bool.or_true])⟩
    · obtain ⟨h1, _, h3, h4⟩ := fresh a z
      refine ⟨h1, ?_, h4⟩
      cases e : C.P a with
      | none => rfl
      | some o =>
        rw [E.pr a o e] at h3
        cases h3
  · refine stay a o (E.pr a o h) ?_
    cases e : ioAt as σ a with
    | false => rfl
    | true =>
      rw [(ioM a e).2] at h
      cases h
/-- the call itself -/
theorem run_call {φ : M Rv} {as : List Ag} {n : Nat} {Q : VK} (E : EnvOk R C L H ρ σ) (h : RunK R W (callM φ as) σ H C L ρ fun r ρ' L' H' => ∀ v, RvOk R C L' H' ρ' σ v r → Q v H') {vs : List V} (hv : AgsOk R (vis C L H) σ as vs) (hn : as.length = n) :
    spF R n φ vs H Q fun cls d H' => W cls d σ H' := by
  unfold RunK callM at h
  cases nd : nodupB (iosOf as) with
  | false => rw [nd] at h; exact h.elim
  | true =>
    rw [nd] at h
    simp only [if_true] at h
    cases ha : agsIn ρ as with
    | none => rw [ha] at h; exact h.elim
    | some args =>
      rw [ha] at h
      refine ⟨calleeC C L H σ as vs, args, by rw [hv.length, hn], call_in E hv ha nd, ?_⟩
      simp only at h
      cases hφ : φ args with
      | bad => rw [hφ] at h; exact h.elim
      | ok r outs =>
        rw [hφ] at h
        simp only at h ⊢
        cases ho : agsOut ρ as outs with
        | none => rw [ho] at h; exact h.elim
        | some ρ2 =>
          rw [ho] at h
          intro v L' H' E' S' rv
          obtain ⟨E2, S2⟩ := call_out E hv ha nd (agsOut_rel nd ho) E'
          refine h _ H' E2 S2 v ?_
          cases r with
          | im d =>
            have rv' : Rep R (vis (calleeC C L H σ as vs) L' H') d v := rv
            rw [calleeC_vis] at rv'
            exact rv'
          | nw ds =>
            obtain ⟨p, ws, e1, lp, hp, rr, _⟩ := rv
            rw [calleeC_vis] at rr
            refine ⟨p, ws, e1, by show (L p || L' p) = true; rw [lp, Bool.or_true], hp, rr, fun i xs hi hz => ?_⟩
            obtain ⟨b, bs, e2, lb, _⟩ := E2.sl i _ hi
            -- the slot's list was there ahead of the call
            have f := (E'.fr p lp).1
            have f' : (C.M0 p || L p) = false := f
            rw [Bool.or_eq_false_iff] at f'
            have old : ∃ xs', ρ[i]? = some (.ow xs') := by
              have rel := agsOut_rel nd ho
              by_cases hm : i ∈ iosOf as
              · have := of_iosOf hm
                obtain ⟨q, hq⟩ := this
                obtain ⟨xs1, ys1, _, hk⟩ := rel.put q i hq
                rcases hk with ⟨k1, k2⟩ | ⟨k1, k2⟩
                · exact ⟨xs1, k1⟩
                · rw [k2] at hi; cases hi
              · rw [rel.keep i hm] at hi
                exact ⟨xs, hi⟩
            obtain ⟨xs', hx⟩ := old
            obtain ⟨b', _, e3, lb', _⟩ := E.sl i _ hx
            rw [hz] at e3
            cases e3
            rw [f'.2] at lb'
            cases lb'
      | exc x outs =>
        rw [hφ] at h
        simp only at h ⊢
        cases ho : agsOut ρ as outs with
        | none => rw [ho] at h; exact h.elim
        | some ρ2 =>
          rw [ho] at h
          intro cls d L' H' E' S' xo
          obtain ⟨E2, S2⟩ := call_out E hv ha nd (agsOut_rel nd ho) E'
          refine h cls d _ H' E2 S2 ?_
          unfold XOk at xo ⊢
          rw [calleeC_vis] at xo
          exact xo
end
end Pu
/-! Pu, part 12: what is walked, targets, loops. -/
namespace Pu
open PySem PySem.Spec PyProof.Rows L2 RZ

/-- what J walks, over everything that still shows the heap V1 -/
structure Walk (R : RC) (V1 : Hp) (J : L2.It) (ds : List D) : Prop where
  go : ∀ i H, Le V1 H → i < ds.length → J.go i H
  stop : ∀ i H, Le V1 H → ds.length ≤ i → J.stop i H
  yld : ∀ i H x H', Le V1 H → i < ds.length → J.yld i H x H' → ∃ d, ds[i]? = some d ∧ Le H H' ∧ ∀ V', Le V1 V' → (∀ a o, H a = none → H' a = some o → V' a = some o) → Rep R V' d x
section
variable {R : RC} {V1 : Hp}
theorem walk_l {a : Addr} {ds : List D} {vs : List V} (s : SqL R.K V1 a vs) (r : Reps R V1 ds vs) : Walk R V1 (Itl R.K a) ds := by
  refine ⟨fun i H le hi => ?_, fun i H le hi => ⟨vs, le_l le s, by rw [r.length]; exact hi⟩, fun i H x H' le _ ⟨e, h⟩ => ?_⟩
  · obtain ⟨v, h1, _⟩ := r.get (List.getElem?_eq_getElem hi)
    exact ⟨vs, v, le_l le s, h1⟩
  · obtain ⟨d, h1, h2⟩ := r.getV (h vs (le_l le s))
    exact ⟨d, h1, by rw [e]; exact .refl _, fun V' l _ => Rep.le l _ _ h2⟩
theorem walk_t {a : Addr} {ds : List D} {vs : List V} (s : SqT R.K V1 a vs) (r : Reps R V1 ds vs) : Walk R V1 (Itt R.K a) ds := by
  refine ⟨fun i H le hi => ?_, fun i H le hi => ⟨vs, le_t le s, by rw [r.length]; exact hi⟩, fun i H x H' le _ ⟨e, h⟩ => ?_⟩
  · obtain ⟨v, h1, _⟩ := r.get (List.getElem?_eq_getElem hi)
    exact ⟨vs, v, le_t le s, h1⟩
  · obtain ⟨d, h1, h2⟩ := r.getV (h vs (le_t le s))
    exact ⟨d, h1, by rw [e]; exact .refl _, fun V' l _ => Rep.le l _ _ h2⟩
theorem rngL_len (lo : Int) (n : Nat) : (rngL lo n).length = n := by simp [rngL]
theorem rngL_get (lo : Int) (n i : Nat) (h : i < n) : (rngL lo n)[i]? = some (.int (lo + (i : Nat))) := by simp [rngL, h]
theorem rngC_len (lo c : Int) (n : Nat) : (rngC lo c n).length = n := by simp [rngC]
theorem rngC_get (lo c : Int) (n i : Nat) (h : i < n) : (rngC lo c n)[i]? = some (.int (lo + (i : Nat) * c)) := by simp [rngC, h]
theorem walk_r (lo : Int) (n : Nat) : Walk R V1 (Itr lo n) (rngL lo n) := by
  refine ⟨fun i H _ hi => by rw [rngL_len] at hi; exact hi, fun i H _ hi => by rw [rngL_len] at hi; exact hi, fun i H x H' _ hi ⟨e, h⟩ => ?_⟩
  rw [rngL_len] at hi
  exact ⟨_, rngL_get lo n i hi, by rw [e]; exact .refl _, fun V' _ _ => h⟩
theorem walk_c (lo c : Int) (n : Nat) : Walk R V1 (Itc lo c n) (rngC lo c n) := by
  refine ⟨fun i H _ hi => by rw [rngC_len] at hi; exact hi, fun i H _ hi => by rw [rngC_len] at hi; exact hi, fun i H x H' _ hi ⟨e, h⟩ => ?_⟩
  rw [rngC_len] at hi
  exact ⟨_, rngC_get lo c n i hi, by rw [e]; exact .refl _, fun V' _ _ => h⟩
theorem zipL_get : ∀ (xs ys : List D) (i : Nat), (zipL xs ys)[i]? = match xs[i]?, ys[i]? with | some x, some y => some (.tup [x, y]) | _, _ => none
  | [], ys, i => by simp [zipL]
  | x :: xs, [], i => by cases i <;> simp [zipL] <;> split <;> simp_all
  | x :: xs, y :: ys, 0 => by simp [zipL]
  | x :: xs, y :: ys, i + 1 => by
    have ih := zipL_get xs ys i
    simpa [zipL] using ih
theorem zipL_len : ∀ (xs ys : List D), (zipL xs ys).length = min xs.length ys.length
  | [], ys => by simp [zipL]
  | x :: xs, [] => by simp [zipL]
  | x :: xs, y :: ys => by
    have ih := zipL_len xs ys
    simp only [zipL, List.length_cons, ih]
    omega
theorem pair_rep {V' : Hp} {x y : D} {u v : V} {T : Addr} (h1 : Rep R V' x u) (h2 : Rep R V' y v) (hT : V' T = some (.tup [u, v])) : Rep R V' (.tup [x, y]) (.ref T) := ⟨T, [u, v], rfl, .inl (.inl hT), u, [v], rfl, h1, v, [], rfl, h2, rfl⟩
theorem walk_z {a b : Addr} {xs ys : List D} {vs ws : List V} (s : SqL R.K V1 a vs) (r : Reps R V1 xs vs) (s2 : SqL R.K V1 b ws) (r2 : Reps R V1 ys ws) : Walk R V1 (Itz R.K a b) (zipL xs ys) := by
  refine ⟨fun i H le hi => ?_, fun i H le hi => ⟨vs, ws, le_l le s, le_l le s2, ?_⟩, fun i H x H' le hi ⟨T, u, v, e, nT, eH, h1, h2⟩ => ?_⟩
  · rw [zipL_len] at hi
    obtain ⟨v, g1, _⟩ := r.get (List.getElem?_eq_getElem (show i < xs.length by omega))
    obtain ⟨w, g2, _⟩ := r2.get (List.getElem?_eq_getElem (show i < ys.length by omega))
    exact ⟨vs, ws, v, w, le_l le s, le_l le s2, g1, g2⟩
  · rw [zipL_len] at hi
    rw [r.length, r2.length]
    omega
  · obtain ⟨d, g1, g2⟩ := r.getV (h1 vs (le_l le s))
    obtain ⟨d', g3, g4⟩ := r2.getV (h2 ws (le_l le s2))
    refine ⟨.tup [d, d'], by rw [zipL_get, g1, g3], by rw [eH]; exact .new nT, fun V' l k => ?_⟩
    rw [e]
    exact pair_rep (Rep.le l _ _ g2) (Rep.le l _ _ g4) (k T _ nT (by rw [eH]; exact upd_same))
theorem walk_zt {a b : Addr} {xs ys : List D} {vs ws : List V} (s : SqT R.K V1 a vs) (r : Reps R V1 xs vs) (s2 : SqT R.K V1 b ws) (r2 : Reps R V1 ys ws) : Walk R V1 (ItzT R.K a b) (zipL xs ys) := by
  refine ⟨fun i H le hi => ?_, fun i H le hi => ⟨vs, ws, le_t le s, le_t le s2, ?_⟩, fun i H x H' le hi ⟨T, u, v, e, nT, eH, h1, h2⟩ => ?_⟩
  · rw [zipL_len] at hi
    obtain ⟨v, g1, _⟩ := r.get (List.getElem?_eq_getElem (show i < xs.length by omega))
    obtain ⟨w, g2, _⟩ := r2.get (List.getElem?_eq_getElem (show i < ys.length by omega))
    exact ⟨vs, ws, v, w, le_t le s, le_t le s2, g1, g2⟩
  · rw [zipL_len] at hi
    rw [r.length, r2.length]
    omega
  · obtain ⟨d, g1, g2⟩ := r.getV (h1 vs (le_t le s))
    obtain ⟨d', g3, g4⟩ := r2.getV (h2 ws (le_t le s2))
    refine ⟨.tup [d, d'], by rw [zipL_get, g1, g3], by rw [eH]; exact .new nT, fun V' l k => ?_⟩
    rw [e]
    exact pair_rep (Rep.le l _ _ g2) (Rep.le l _ _ g4) (k T _ nT (by rw [eH]; exact upd_same))
end
section
variable (R : RC) (W : WX)
def tIt (m : M (List D)) : TI := fun σ H Q => ∃ C L ρ, EnvOk R C L H ρ σ ∧ RunK R W m σ H C L ρ fun ds _ L' H' => ∀ J, Walk R (vis C L' H') J ds → Q J H'
/-- only these slots have changed -/
def Off (ns : List Nat) (σ σ' : L2.St) : Prop := σ'.length = σ.length ∧ ∀ j, j ∉ ns → σ'[j]? = σ[j]?
def tTg (ns : List Nat) (m : Rv → M Unit) : TG := fun v σ H Q => ∃ C L ρ r, EnvOk R C L H ρ σ ∧ RvOk R C L H ρ σ v r ∧ match m r ρ with
  | .ok _ ρ' => ∀ σ' L' H', EnvOk R C L' H' ρ' σ' → Step C L H L' H' → Off ns σ σ' → Q σ' H'
  | .exc x ρ' => ∀ cls d σ' L' H', EnvOk R C L' H' ρ' σ' → Step C L H L' H' → XOk R C L' H' x cls d → W cls d σ' H'
  | .bad => False
def tTgs (ns : List Nat) (m : List D → M Unit) : TGs := fun vs σ H Q => ∃ C L ρ ds, EnvOk R C L H ρ σ ∧ Reps R (vis C L H) ds vs ∧ match m ds ρ with
  | .ok _ ρ' => ∀ σ' L' H', EnvOk R C L' H' ρ' σ' → Step C L H L' H' → Off ns σ σ' → Q σ' H'
  | .exc x ρ' => ∀ cls d σ' L' H', EnvOk R C L' H' ρ' σ' → Step C L H L' H' → XOk R C L' H' x cls d → W cls d σ' H'
  | .bad => False
/-- what a statement's end asks -/
def FlK (fl : Fl) (C : Cc) (L : Addr → Bool) (H : Hp) (E : Ends) : Prop := match fl with
  | .nx ρ' => ∀ σ' L' H', EnvOk R C L' H' ρ' σ' → Step C L H L' H' → E.nx σ' H'
  | .bk ρ' => ∀ σ' L' H', EnvOk R C L' H' ρ' σ' → Step C L H L' H' → E.bk σ' H'
  | .ct ρ' => ∀ σ' L' H', EnvOk R C L' H' ρ' σ' → Step C L H L' H' → E.ct σ' H'
  | .rt r ρ' => ∀ v σ' L' H', EnvOk R C L' H' ρ' σ' → Step C L H L' H' → RvOk R C L' H' ρ' σ' v r → E.rt v H'
  | .exc x ρ' => ∀ cls d σ' L' H', EnvOk R C L' H' ρ' σ' → Step C L H L' H' → XOk R C L' H' x cls d → W cls d σ' H'
  | .bad => False
def tS (F : Env → Fl) : TS := fun E σ H => ∃ C L ρ, EnvOk R C L H ρ σ ∧ FlK R W (F ρ) C L H E
end
section
variable {R : RC} {W : WX} {X : Cx} {a b c e : Expr} {es : List Expr} {pos p : Pos}
theorem PI.imp {X : Cx} {tg it : Expr} {t t' : TI} (h : PI X tg it t) (f : ∀ σ H Q, t' σ H Q → t σ H Q) : PI X tg it t' := ⟨fun pins s σ H Q I q => h.run pins s σ H Q I (f σ H Q q)⟩
theorem PI.or {X : Cx} {tg it : Expr} {t t' : TI} (h : PI X tg it t) (h' : PI X tg it t') : PI X tg it (fun σ H Q => t σ H Q ∨ t' σ H Q) := ⟨fun pins s σ H Q I q => q.elim (h.run pins s σ H Q I) (h'.run pins s σ H Q I)⟩
theorem PG.imp {X : Cx} {tg : Expr} {t t' : TG} (h : PG X tg t) (f : ∀ v σ H Q, t' v σ H Q → t v σ H Q) : PG X tg t' := ⟨fun pins s σ H v u Q I r q => h.run pins s σ H v u Q I r (f v σ H Q q)⟩
theorem PGs.imp {X : Cx} {tg : List Expr} {t t' : TGs} (h : PGs X tg t) (f : ∀ v σ H Q, t' v σ H Q → t v σ H Q) : PGs X tg t' := ⟨fun pins s σ H v u Q I r q => h.run pins s σ H v u Q I r (f v σ H Q q)⟩
theorem pi_seqd {m : M D} {tg : Expr} (hK : X.K = R.K) (h : PE X e (tD R W m)) : PI X tg e (tIt R W (mbind m fun x => mopt x.seq?)) :=
  PI.imp (PI.or (pi_list h) (pi_tup h)) fun σ H Q ⟨C, L, ρ, E, h2⟩ => by
    unfold iList iTup
    rw [hK]
    -- which of both, by the value
    have key : ∀ x ρ1, m ρ = .ok x ρ1 → (∃ xs, x = .tup xs) ∨ ∀ xs, x ≠ .tup xs := fun x _ _ => by
      cases x <;> first | exact .inl ⟨_, rfl⟩ | exact .inr fun _ z => by cases z
    by_cases ht : ∃ xs ρ1, m ρ = .ok (.tup xs) ρ1
    · refine .inr ⟨C, L, ρ, E, ?_⟩
      obtain ⟨xs, ρ1, em⟩ := ht
      have h3 := h2.bind
      unfold RunK at h3 ⊢
      rw [em] at h3 ⊢
      intro L1 H1 E1 S1 v hv
      have k : RunK R W (mopt (some xs)) σ H1 C L1 ρ1 fun b ρ2 La H2 => Step C L1 H1 La H2 → ∀ J, Walk R (vis C La H2) J b → Q J H2 := h3 L1 H1 E1 S1
      obtain ⟨ds, e1, k2⟩ := RunK.opt k
      cases e1
      obtain ⟨a, vs, e2, s, r⟩ := hv
      exact ⟨a, e2, ⟨vs, le_t (vis_le _ _ _) s⟩, k2 L1 H1 E1 (.refl _ _ _) (.refl _ _ _) _ (walk_t s r)⟩
    · refine .inl ⟨C, L, ρ, E, ?_⟩
      have h3 := h2.bind
      unfold RunK at h3 ⊢
      cases em : m ρ with
      | bad => rw [em] at h3; exact h3.elim
      | exc x ρ1 => rw [em] at h3; exact h3
      | ok x ρ1 =>
        rw [em] at h3
        intro L1 H1 E1 S1 v hv
        have k : RunK R W (mopt x.seq?) σ H1 C L1 ρ1 fun b ρ2 La H2 => Step C L1 H1 La H2 → ∀ J, Walk R (vis C La H2) J b → Q J H2 := h3 L1 H1 E1 S1
        obtain ⟨ds, e1, k2⟩ := RunK.opt k
        cases x with
        | tup xs => exact absurd ⟨xs, ρ1, em⟩ ht
        | lst xs =>
          cases e1
          obtain ⟨a, vs, e2, s, r⟩ := hv
          exact ⟨a, e2, ⟨vs, .inl (.inl (vis_le _ _ _ _ _ s))⟩, k2 L1 H1 E1 (.refl _ _ _) (.refl _ _ _) _ (walk_l (.inl (.inl s)) r)⟩
        | rol xs =>
          cases e1
          obtain ⟨a, vs, e2, s, r⟩ := hv
          exact ⟨a, e2, ⟨vs, le_l (vis_le _ _ _) s⟩, k2 L1 H1 E1 (.refl _ _ _) (.refl _ _ _) _ (walk_l s r)⟩
        | _ => cases e1
theorem ok62_iff {i : Int} : ok62 i = true ↔ -(2 ^ 62) ≤ i ∧ i < 2 ^ 62 := by
  unfold ok62
  rw [Bool.and_eq_true, decide_eq_true_eq, decide_eq_true_eq]
/-- the arguments, one, two, three -/
theorem tA1 {m : M D} {K : List V → Hp → Prop} {σ : L2.St} {H : Hp} (h : tD R W m σ H fun x H1 => K [x] H1) : tCons (tD R W m) tNil σ H K := h
theorem pi_r1d {m : M D} {tg : Expr} (hg : Gl X "range") (hm : X.mg "range" = none) (h : PE X a (tD R W m)) (hs : isStar a = false) : PI X tg (.Call (.Name "range" p) [a] [] pos) (tIt R W (mbind m fun x => match x with
    | .int j => if ok62 j = true then mret (rngL 0 j.toNat) else mbad
    | _ => mbad)) :=
  PI.imp (pi_range1 hg hm (pa_cons h pa_nil (starEach_plain hs)) (by rw [starEach_plain hs]; rfl)) fun σ H Q ⟨C, L, ρ, E, h2⟩ => by
    refine ⟨C, L, ρ, E, h2.bind.mono fun x ρ1 L1 H1 E1 S1 k v hv => ?_⟩
    cases x with
    | int j =>
      cases hv
      simp only at k
      split at k
      · rename_i hz
        obtain ⟨z1, z2⟩ := ok62_iff.mp hz
        exact ⟨j, rfl, z1, z2, k.ret L1 H1 E1 (.refl _ _ _) (.refl _ _ _) _ (walk_r 0 j.toNat)⟩
      · exact k.nobad.elim
    | _ => exact k.nobad.elim
theorem pi_r2d {m mb : M D} {tg : Expr} (hg : Gl X "range") (hm : X.mg "range" = none) (h : PE X a (tD R W m)) (hb : PE X b (tD R W mb)) (hs : isStar a = false) (hs2 : isStar b = false) : PI X tg (.Call (.Name "range" p) [a, b] [] pos) (tIt R W (mbind m fun x => mbind mb fun y => match x, y with
    | .int i, .int j => if ok62 i = true ∧ ok62 j = true then mret (rngL i (j - i).toNat) else mbad
    | _, _ => mbad)) :=
  PI.imp (pi_range2 hg hm (pa_cons h (pa_cons hb pa_nil (starEach_plain hs2)) (starEach_plain hs)) (by rw [starEach_plain hs, starEach_plain hs2]; rfl) (by rw [starEach_plain hs2]; rfl)) fun σ H Q ⟨C, L, ρ, E, h2⟩ => by
    refine ⟨C, L, ρ, E, h2.bind.mono fun x ρ1 L1 H1 E1 S1 k v hv => ?_⟩
    refine ⟨C, L1, ρ1, E1, k.bind.mono fun y ρ2 La H2 E2 S2 k2 w hw => ?_⟩
    cases x with
    | int i =>
      cases y with
      | int j =>
        cases hv
        cases hw
        simp only at k2
        split at k2
        · rename_i hz
          obtain ⟨z1, z2⟩ := ok62_iff.mp hz.1
          obtain ⟨z3, z4⟩ := ok62_iff.mp hz.2
          exact ⟨i, j, rfl, ⟨z1, z2, z3, z4⟩, k2.ret La H2 E2 (.refl _ _ _) (.refl _ _ _) S2 _ (walk_r i _)⟩
        · exact k2.nobad.elim
      | _ => exact k2.nobad.elim
    | _ => exact k2.nobad.elim
theorem pi_r3d {m mb mc : M D} {tg : Expr} (hg : Gl X "range") (hm : X.mg "range" = none) (h : PE X a (tD R W m)) (hb : PE X b (tD R W mb)) (hc : PE X c (tD R W mc)) (hs : isStar a = false) (hs2 : isStar b = false) (hs3 : isStar c = false) : PI X tg (.Call (.Name "range" p) [a, b, c] [] pos) (tIt R W (mbind m fun x => mbind mb fun y => mbind mc fun z => match x, y, z with
    | .int i, .int j, .int k => if k ≠ 0 ∧ k.natAbs < 1073741824 ∧ Builtin.Range.small i j k = true then mret (rngC i k (Builtin.Range.rangeSize i j k).toNat) else mbad
    | _, _, _ => mbad)) :=
  PI.imp (pi_range3 hg hm (pa_cons h (pa_cons hb (pa_cons hc pa_nil (starEach_plain hs3)) (starEach_plain hs2)) (starEach_plain hs)) (starEach_plain hs) (star_any (by simp [hs2, hs3]))) fun σ H Q ⟨C, L, ρ, E, h2⟩ => by
    refine ⟨C, L, ρ, E, h2.bind.mono fun x ρ1 L1 H1 E1 S1 k v hv => ?_⟩
    refine ⟨C, L1, ρ1, E1, k.bind.mono fun y ρ2 La H2 E2 S2 k2 w hw => ?_⟩
    refine ⟨C, La, ρ2, E2, k2.bind.mono fun z ρ3 L3 H3 E3 S3 k3 u hu => ?_⟩
    cases x with
    | int i =>
      cases y with
      | int j =>
        cases z with
        | int l =>
          cases hv
          cases hw
          cases hu
          simp only at k3
          split at k3
          · rename_i hz
            have nn : 0 ≤ Builtin.Range.rangeSize i j l := by
              unfold Builtin.Range.rangeSize
              split
              · split
                · have : 0 ≤ (j - i - 1) / l := Int.ediv_nonneg (by omega) (by omega)
                  omega
                · omega
              · split
                · have : 0 ≤ (i - j - 1) / -l := Int.ediv_nonneg (by omega) (by omega)
                  omega
                · omega
            exact ⟨i, j, l, _, rfl, ⟨hz.1, hz.2.1, hz.2.2, (Int.toNat_of_nonneg nn).symm⟩, k3.ret L3 H3 E3 (.refl _ _ _) (.refl _ _ _) S3 (S2.trans E2 S3) _ (walk_c i l _)⟩
          · exact k3.nobad.elim
        | _ => exact k3.nobad.elim
      | _ => exact k3.nobad.elim
    | _ => exact k3.nobad.elim
theorem pi_zipd {m mb : M D} {elts : List Expr} {kk : Nat} {tpos : Pos} (hK : X.K = R.K) (hg : Gl X "zip") (hm : X.mg "zip" = none) (h : PE X a (tD R W m)) (hb : PE X b (tD R W mb)) (hs : isStar a = false) (hs2 : isStar b = false) : PI X (.Tuple elts kk tpos) (.Call (.Name "zip" p) [a, b] [] pos) (tIt R W (mbind m fun x => mbind mb fun y => match x, y with
    | .lst xs, .lst ys => mret (zipL xs ys)
    | .tup xs, .tup ys => mret (zipL xs ys)
    | _, _ => mbad)) :=
  PI.imp (pi_zipA hg hm (pa_cons h (pa_cons hb pa_nil (starEach_plain hs2)) (starEach_plain hs)) (starEach_plain hs) (star_any (by simp [hs2]))) fun σ H Q ⟨C, L, ρ, E, h2⟩ => by
    unfold iZipA
    rw [hK]
    refine ⟨C, L, ρ, E, h2.bind.mono fun x ρ1 L1 H1 E1 S1 k v hv => ?_⟩
    refine ⟨C, L1, ρ1, E1, k.bind.mono fun y ρ2 La H2 E2 S2 k2 w hw => ?_⟩
    have hv2 := Rep.le S2.vis _ _ hv
    cases x with
    | lst xs =>
      cases y with
      | lst ys =>
        obtain ⟨a, vs, rfl, s, r⟩ := hv2
        obtain ⟨b, ws, rfl, s2, r2⟩ := hw
        exact ⟨a, b, vs, ws, rfl, .inl ⟨.inl (.inl (vis_le _ _ _ _ _ s)), .inl (.inl (vis_le _ _ _ _ _ s2)), k2.ret La H2 E2 (.refl _ _ _) (.refl _ _ _) S2 _ (walk_z (.inl (.inl s)) r (.inl (.inl s2)) r2)⟩⟩
      | _ => exact k2.nobad.elim
    | tup xs =>
      cases y with
      | tup ys =>
        obtain ⟨a, vs, rfl, s, r⟩ := hv2
        obtain ⟨b, ws, rfl, s2, r2⟩ := hw
        exact ⟨a, b, vs, ws, rfl, .inr ⟨le_t (vis_le _ _ _) s, le_t (vis_le _ _ _) s2, k2.ret La H2 E2 (.refl _ _ _) (.refl _ _ _) S2 _ (walk_zt s r s2 r2)⟩⟩
      | _ => exact k2.nobad.elim
    | _ => exact k2.nobad.elim
/-! ### targets -/
theorem tg_run {m : M Unit} {C : Cc} {L L0 : Addr → Bool} {H : Hp} {ρ : Env} {σ : L2.St} {Q : L2.St → Hp → Prop} (S0 : Step C L H L0 H) (E0 : EnvOk R C L0 H ρ σ) {ns : List Nat} (h : match m ρ with
    | .ok _ ρ' => ∀ σ' L' H', EnvOk R C L' H' ρ' σ' → Step C L H L' H' → Off ns σ σ' → Q σ' H'
    | .exc x ρ' => ∀ cls d σ' L' H', EnvOk R C L' H' ρ' σ' → Step C L H L' H' → XOk R C L' H' x cls d → W cls d σ' H'
    | .bad => False) : RunK R W m σ H C L0 ρ fun _ _ _ H' => Q σ H' := by
  unfold RunK
  cases q : m ρ with
  | ok u ρ' =>
    rw [q] at h
    exact fun L' H' E' S' => h σ L' H' E' (S0.trans E0 S') ⟨rfl, fun _ _ => rfl⟩
  | exc x ρ' =>
    rw [q] at h
    exact fun cls d L' H' E' S' xo => h cls d σ L' H' E' (S0.trans E0 S') xo
  | bad =>
    rw [q] at h
    exact h
theorem pg_nm {i : Nat} {x : Str} (hN : X.N.Nodup) (hi : X.N[i]? = some x) (hx : Loc X.env.scope x) (hf : X.fn x = true ∨ X.env.scope.names.lookup x = some .local) : PG X (.Name x pos) (tTg R W [i] (st i)) :=
  PG.imp (pg_name hN hi hx hf) fun v σ H Q ⟨C, L, ρ, r, E, rv, h⟩ => by
    obtain ⟨ρ', e1, e2⟩ := run_st (i := i) (r := r) (ρ := ρ) (by
      cases q : st i r ρ with
      | ok _ _ => trivial
      | exc x ρ' =>
        exfalso
        unfold st at q
        split at q <;> cases q
      | bad => rw [q] at h; exact h)
    rw [e1] at h
    subst e2
    exact h _ L H (E.store i v r rv) (.refl _ _ _) ⟨List.length_set, fun j hj => List.getElem?_set_ne (fun z => hj (by rw [z]; exact List.mem_cons_self))⟩
theorem pg_sb {m : M D} {i : Nat} {x : Str} (hN : X.N[i]? = some x) (hv : Vis X.env.scope x) (hd : (x == ("__debug__" : Str)) = false) (hcd : (x == ("__classdict__" : Str)) = false) (hb : PE X b (tD R W m))
    (ha : ∀ v, assign (.Subscript (.Name x p) b pos) X.env v = (do
      let ov ← holding [v] (eval (.Name x p) X.env)
      let iv ← holding [v, ov] (eval b X.env)
      standAt pos
      holding [v, ov, iv] (setItem ov iv v)
      release [v, ov, iv] [])) : PG X (.Subscript (.Name x p) b pos) (tTg R W [] fun r => mbind (own i) fun _ => mbind m fun y => mbind (own i) fun xs => match y with
    | .int k => match ixN xs.length k with
      | some j => wr i (xs.set j r.d)
      | none => mbad
    | _ => mbad) :=
  PG.imp (pg_sub (pe_var hN hv hd hcd) hb set_list ha) fun v σ H Q ⟨C, L, ρ, r, E, rv, h⟩ => by
    obtain ⟨L0, E0, le0, lev0, rp⟩ := rv.fz E
    have S0 : Step C L H L0 H := (Step.refl C L H).less le0
    have h' := tg_run S0 E0 h
    obtain ⟨a, vs0, xs0, hi, _, _, _, _, k0⟩ := run_own E0 h'.bind
    have k0 := k0 L0 H E0 (.refl _ _ _)
    refine ⟨.ref a, hi, C, L0, ρ, E0, k0.bind.mono fun y ρ1 L1 H1 E1 S1 k w hw => ?_⟩
    obtain ⟨a', vs, xs, hi', hp, rr, _, _, k2⟩ := run_own E1 k.bind
    rw [hi] at hi'
    cases hi'
    have k2 := k2 L1 H1 E1 (.refl _ _ _)
    cases y with
    | int n =>
      cases hw
      simp only at k2
      cases q : ixN xs.length n with
      | none => rw [q] at k2; exact k2.nobad.elim
      | some j =>
        rw [q] at k2
        have rs : Reps R (vis C L1 H1) (xs.set j r.d) (vs.set j v) := rr.set (Rep.le S1.vis _ _ rp) j
        obtain ⟨ρ', e1, E', S', kk⟩ := run_wr E1 k2 hi hp rs
        exact ⟨a, vs, n, j, rfl, rfl, hp, by rw [rr.length]; exact q, kk S' S' (S1.trans E1 S')⟩
    | _ => exact k2.nobad.elim
theorem pgs_nl : PGs X [] (tTgs R W [] fun xs => match xs with | [] => mret () | _ => mbad) :=
  PGs.imp pgs_nil fun vs σ H Q ⟨C, L, ρ, ds, E, r, h⟩ => by
    cases ds with
    | nil => exact ⟨r, h σ L H E (.refl _ _ _) ⟨rfl, fun _ _ => rfl⟩⟩
    | cons _ _ => exact h.elim
theorem isStar_assign {e : Expr} {es : List Expr} {env : PySem.Env} (h : isStar e = false) : assignEach (e :: es) env = (false, assign e env) :: assignEach es env := by
  cases e <;> first | rfl | cases h
theorem pgs_cn {ns ms : List Nat} {g : Rv → M Unit} {gs : List D → M Unit} (h1 : PG X e (tTg R W ns g)) (h2 : PGs X es (tTgs R W ms gs)) (hs : isStar e = false) : PGs X (e :: es) (tTgs R W (ns ++ ms) fun xs => match xs with
    | x :: xs => mbind (g (.im x)) fun _ => gs xs
    | [] => mbad) :=
  PGs.imp (pgs_cons h1 h2 (by rw [isStar_assign hs]; rfl)) fun vs σ H Q ⟨C, L, ρ, ds, E, r, h⟩ => by
    cases ds with
    | nil => exact h.elim
    | cons d ds =>
      obtain ⟨v, ws, rfl, hv, hvs⟩ := r
      refine ⟨v, ws, rfl, C, L, ρ, .im d, E, hv, ?_⟩
      have h' : match mbind (g (.im d)) (fun _ => gs ds) ρ with
        | .ok _ ρ' => ∀ σ' L' H', EnvOk R C L' H' ρ' σ' → Step C L H L' H' → Off (ns ++ ms) σ σ' → Q σ' H'
        | .exc x ρ' => ∀ cls dd σ' L' H', EnvOk R C L' H' ρ' σ' → Step C L H L' H' → XOk R C L' H' x cls dd → W cls dd σ' H'
        | .bad => False := h
      unfold mbind at h'
      cases q : g (.im d) ρ with
      | bad => rw [q] at h'; exact h'.elim
      | exc x ρ' => rw [q] at h'; exact h'
      | ok u ρ1 =>
        rw [q] at h'
        intro σ1 L1 H1 E1 S1 o1
        refine ⟨C, L1, ρ1, ds, E1, Reps.le S1.vis _ _ hvs, ?_⟩
        have h3 : match gs ds ρ1 with
          | .ok _ ρ' => ∀ σ' L' H', EnvOk R C L' H' ρ' σ' → Step C L H L' H' → Off (ns ++ ms) σ σ' → Q σ' H'
          | .exc x ρ' => ∀ cls dd σ' L' H', EnvOk R C L' H' ρ' σ' → Step C L H L' H' → XOk R C L' H' x cls dd → W cls dd σ' H'
          | .bad => False := h'
        cases q2 : gs ds ρ1 with
        | bad => rw [q2] at h3; exact h3.elim
        | exc x ρ' => rw [q2] at h3; exact fun cls dd σ' L' H' E' S' xo => h3 cls dd σ' L' H' E' (S1.trans E1 S') xo
        | ok u2 ρ2 => rw [q2] at h3; exact fun σ' L' H' E' S' o2 => h3 σ' L' H' E' (S1.trans E1 S') ⟨o2.1.trans o1.1, fun j hj => (o2.2 j fun z => hj (List.mem_append_right _ z)).trans (o1.2 j fun z => hj (List.mem_append_left _ z))⟩
theorem assign_len {env : PySem.Env} : ∀ {es : List Expr}, (es.all fun e => !isStar e) = true → (assignEach es env).length = es.length ∧ (assignEach es env).findIdx? (·.1) = none
  | [], _ => ⟨rfl, rfl⟩
  | e :: es, h => by
    rw [List.all_cons, Bool.and_eq_true, Bool.not_eq_true'] at h
    obtain ⟨h1, h2⟩ := assign_len (env := env) h.2
    rw [isStar_assign h.1]
    refine ⟨by rw [List.length_cons, List.length_cons, h1], ?_⟩
    rw [List.findIdx?_cons]
    simp [h2]
theorem pg_tp {ns : List Nat} {gs : List D → M Unit} {k : Nat} (hK : X.K = R.K) (hc : X.calm = true) (h : PGs X es (tTgs R W ns gs)) (hs : (es.all fun e => !isStar e) = true) (hl : ∀ ds ρ, (match gs ds ρ with | .bad => False | _ => True) → ds.length = es.length) : PG X (.Tuple es k pos) (tTg R W ns fun r => match r with
    | .im (.tup xs) => gs xs
    | _ => mbad) :=
  PG.imp (pg_tup hc h (n := es.length) (assign_len hs).1 (assign_len hs).2) fun v σ H Q ⟨C, L, ρ, r, E, rv, h2⟩ => by
    cases r with
    | nw _ => exact h2.elim
    | im d =>
      cases d with
      | tup xs =>
        obtain ⟨a, vs, e1, s, rr⟩ := rv
        rw [hK]
        refine ⟨a, vs, e1, le_t (vis_le _ _ _) s, ?_, C, L, ρ, xs, E, rr, h2⟩
        rw [rr.length]
        refine hl xs ρ ?_
        cases q : gs xs ρ with
        | bad =>
          have h3 : match gs xs ρ with
            | .ok _ ρ' => ∀ σ' L' H', EnvOk R C L' H' ρ' σ' → Step C L H L' H' → Off ns σ σ' → Q σ' H'
            | .exc x ρ' => ∀ cls dd σ' L' H', EnvOk R C L' H' ρ' σ' → Step C L H L' H' → XOk R C L' H' x cls dd → W cls dd σ' H'
            | .bad => False := h2
          rw [q] at h3
          exact h3.elim
        | ok _ _ => trivial
        | exc _ _ => trivial
      | _ => exact h2.elim
end
end Pu
/-! Pu, part 13: statements. -/
namespace Pu
open PySem PySem.Spec PyProof.Rows L2 RZ

section
variable {R : RC} {W : WX} {X : Cx} {a b c e : Expr} {es : List Expr} {pos p : Pos}
theorem FlK.step {fl : Fl} {C : Cc} {L La : Addr → Bool} {H Ha : Hp} {D : Ends} {ρ : Env} {σ : L2.St} (h : FlK R W fl C L H D) (S : Step C L H La Ha) (E : EnvOk R C La Ha ρ σ) : FlK R W fl C La Ha D := by
  cases fl with
  | nx ρ' => exact fun σ' L' H' E' S' => h σ' L' H' E' (S.trans E S')
  | bk ρ' => exact fun σ' L' H' E' S' => h σ' L' H' E' (S.trans E S')
  | ct ρ' => exact fun σ' L' H' E' S' => h σ' L' H' E' (S.trans E S')
  | rt r ρ' => exact fun v σ' L' H' E' S' => h v σ' L' H' E' (S.trans E S')
  | exc x ρ' => exact fun cls d σ' L' H' E' S' => h cls d σ' L' H' E' (S.trans E S')
  | bad => exact h.elim
/-- an expression, then a statement's end -/
theorem FlK.bind {α : Type} {r : Res α} {k : α → Env → Fl} {C : Cc} {L : Addr → Bool} {H : Hp} {D : Ends} {σ : L2.St} {m : M α} {ρ : Env} (em : m ρ = r) (h : FlK R W (toFl r k) C L H D) :
    RunK R W m σ H C L ρ fun a ρ' L' H' => FlK R W (k a ρ') C L' H' D := by
  unfold RunK
  rw [em]
  cases r with
  | ok a ρ' => exact fun L' H' E' S' => FlK.step (fl := k a ρ') h S' E'
  | exc x ρ' => exact fun cls d L' H' E' S' xo => h cls d σ L' H' E' S' xo
  | bad => exact h.elim
theorem pss_nl : PSs X [] (tS R W fun ρ => .nx ρ) := PSs.imp pss_nil fun D σ H ⟨C, L, ρ, E, h⟩ => h σ L H E (.refl _ _ _)
theorem pss_cn {st : Stmt} {rest : List Stmt} {F G : Env → Fl} (h1 : PS X st (tS R W F)) (h2 : PSs X rest (tS R W G)) : PSs X (st :: rest) (tS R W fun ρ => match F ρ with
    | .nx ρ' => G ρ'
    | x => x) :=
  PSs.imp (pss_cons h1 h2) fun D σ H ⟨C, L, ρ, E, h⟩ => by
    refine ⟨C, L, ρ, E, ?_⟩
    have h' : FlK R W (match F ρ with | .nx ρ' => G ρ' | x => x) C L H D := h
    revert h'
    clear h
    cases F ρ with
    | nx ρ' => exact fun h σ' L' H' E' S' => ⟨C, L', ρ', E', FlK.step h S' E'⟩
    | bk ρ' => exact fun h => h
    | ct ρ' => exact fun h => h
    | rt r ρ' => exact fun h => h
    | exc x ρ' => exact fun h => h
    | bad => exact fun h => h
theorem ps_ps : PS X (.Pass pos) (tS R W fun ρ => .nx ρ) := PS.imp ps_pass fun D σ H ⟨C, L, ρ, E, h⟩ => h σ L H E (.refl _ _ _)
theorem ps_bk : PS X (.Break pos) (tS R W fun ρ => .bk ρ) := PS.imp ps_break fun D σ H ⟨C, L, ρ, E, h⟩ => h σ L H E (.refl _ _ _)
theorem ps_ct : PS X (.Continue pos) (tS R W fun ρ => .ct ρ) := PS.imp ps_continue fun D σ H ⟨C, L, ρ, E, h⟩ => h σ L H E (.refl _ _ _)
theorem ps_nv {st : Stmt} : PS X st (tS R W fun _ => .bad) := ⟨fun _ _ _ _ _ _ ⟨_, _, _, _, h⟩ => h.elim⟩
theorem ps_rt {m : M Rv} (h : PE X e (tR R W m)) : PS X (.Return (some e) pos) (tS R W fun ρ => toFl (m ρ) fun r ρ' => .rt r ρ') :=
  PS.imp (ps_ret h) fun D σ H ⟨C, L, ρ, E, h⟩ => ⟨C, L, ρ, E, (FlK.bind rfl h).mono fun r ρ' L' H' E' S' k v rv => k v σ L' H' E' (.refl _ _ _) rv⟩
theorem ps_rtn : PS X (.Return none pos) (tS R W fun ρ => .rt (.im .non) ρ) := PS.imp ps_retN fun D σ H ⟨C, L, ρ, E, h⟩ => h .non σ L H E (.refl _ _ _) rfl
theorem ps_ex {m : M Rv} (h : PE X e (tR R W m)) (hs : swapsWith e none pos.line X.env = pure false) : PS X (.Expr e pos) (tS R W fun ρ => toFl (m ρ) fun _ ρ' => .nx ρ') :=
  PS.imp (ps_expr h hs) fun D σ H ⟨C, L, ρ, E, h⟩ => ⟨C, L, ρ, E, (FlK.bind rfl h).mono fun r ρ' L' H' E' S' k v rv => k σ L' H' E' (.refl _ _ _)⟩
theorem ps_dc {x : Str} {j : Nat} {p2 : Pos} : PS X (.Expr (.Constant (.str x) j p2) pos) (tS R W fun ρ => .nx ρ) := PS.imp ps_doc fun D σ H ⟨C, L, ρ, E, h⟩ => h σ L H E (.refl _ _ _)
theorem ps_ifd {t : M Bool} {F G : Env → Fl} {sa sb : List Stmt} (hc : PT X c (tT R W t)) (ha : PSs X sa (tS R W F)) (hb : PSs X sb (tS R W G)) : PS X (.If c sa sb pos) (tS R W fun ρ => toFl (t ρ) fun k ρ' => match k with
    | true => F ρ'
    | false => G ρ') :=
  PS.imp (ps_if hc ha hb) fun D σ H ⟨C, L, ρ, E, h⟩ => ⟨C, L, ρ, E, (FlK.bind rfl h).mono fun k ρ' L' H' E' S' q => by
    cases k with
    | true => exact ⟨C, L', ρ', E', q⟩
    | false => exact ⟨C, L', ρ', E', q⟩⟩
theorem FlK.bind2 {α β : Type} {m : M α} {f : α → M β} {k : β → Env → Fl} {C : Cc} {L : Addr → Bool} {H : Hp} {D : Ends} {σ : L2.St} {ρ : Env} (h : FlK R W (toFl (mbind m f ρ) k) C L H D) :
    RunK R W m σ H C L ρ fun a ρ1 L1 H1 => FlK R W (toFl (f a ρ1) k) C L1 H1 D := by
  unfold RunK
  unfold mbind at h
  cases q : m ρ with
  | ok a ρ' =>
    rw [q] at h
    exact fun L' H' E' S' => FlK.step (fl := toFl (f a ρ') k) h S' E'
  | exc x ρ' =>
    rw [q] at h
    exact fun cls d L' H' E' S' xo => h cls d σ L' H' E' S' xo
  | bad =>
    rw [q] at h
    exact h.elim
/-- target = value -/
theorem ps_as {ns : List Nat} {m : M Rv} {g : Rv → M Unit} {tg : Expr} (h : PE X e (tR R W m)) (hg : PG X tg (tTg R W ns g)) (hs : swapsWithSole [tg] e pos.line X.env = pure false) (hw : swappedStores [tg] e X.env = pure none) (h1 : isStar tg = false) :
    PS X (.Assign [tg] e pos) (tS R W fun ρ => toFl (mbind m g ρ) fun _ ρ' => .nx ρ') :=
  PS.imp (ps_asg h hg hs hw (by rw [isStar_assign h1]; rfl)) fun D σ H ⟨C, L, ρ, E, h⟩ => by
    refine ⟨C, L, ρ, E, (FlK.bind2 (σ := σ) h).mono fun r ρ1 L1 H1 E1 S1 k v rv => ⟨C, L1, ρ1, r, E1, rv, ?_⟩⟩
    cases q : g r ρ1 with
    | ok u ρ' => rw [q] at k; exact fun σ' L' H' E' S' _ => k σ' L' H' E' S'
    | exc x ρ' => rw [q] at k; exact fun cls d σ' L' H' E' S' xo => k cls d σ' L' H' E' S' xo
    | bad => rw [q] at k; exact k
/-- name = value -/
theorem ps_st {i : Nat} {x : Str} {m : M Rv} {p2 : Pos} (hN : X.N.Nodup) (hi : X.N[i]? = some x) (hx : Loc X.env.scope x) (hf : X.fn x = true ∨ X.env.scope.names.lookup x = some .local) (h : PE X e (tR R W m)) (hs : swapsWith e (some (.Name x p2)) pos.line X.env = pure false) :
    PS X (.Assign [.Name x p2] e pos) (tS R W fun ρ => toFl (mbind m (st i) ρ) fun _ ρ' => .nx ρ') :=
  PS.imp (ps_set hN hi hx h hs hf) fun D σ H ⟨C, L, ρ, E, h⟩ => by
    refine ⟨C, L, ρ, E, (FlK.bind2 (σ := σ) h).mono fun r ρ1 L1 H1 E1 S1 k v rv => ?_⟩
    cases q : st i r ρ1 with
    | ok u ρ' =>
      obtain ⟨ρ'', e1, e2⟩ := run_st (i := i) (r := r) (ρ := ρ1) (by rw [q]; trivial)
      rw [q] at k e1
      cases e1
      subst e2
      exact k _ L1 H1 (E1.store i v r rv) (.refl _ _ _)
    | exc x ρ' =>
      exfalso
      unfold st at q
      split at q <;> cases q
    | bad => rw [q] at k; exact k.elim
/-- name op= value -/
theorem aug_rule (o : B2) : ∃ r, OpR X (inplaceOp o.op) r ∧ R2Ok R r o.aug := by
  cases o with
  | add => exact ⟨_, iop_add, fun C L H ρ σ x y v w rv Q E hv hw e k => by
      cases x <;> cases y <;> cases e
      cases hv
      cases hw
      exact ⟨_, _, rfl, rfl, k.here E rfl⟩⟩
  | sub => exact ⟨_, iop_sub, fun C L H ρ σ x y v w rv Q E hv hw e k => ok_sub C L H ρ σ x y v w rv Q E hv hw (by cases x <;> exact e) k⟩
  | mul => exact ⟨_, iop_mul, fun C L H ρ σ x y v w rv Q E hv hw e k => by
      cases x with
      | int i =>
        cases y with
        | int j =>
          rcases ok_mul C L H ρ σ _ _ v w rv Q E hv hw e k with h | h
          · exact h
          · obtain ⟨l, kk, xs, e1, _⟩ := h
            cases hv
            cases e1
        | _ => cases e
      | _ => cases e⟩
  | fdiv => exact ⟨_, iop_fdiv, fun C L H ρ σ x y v w rv Q E hv hw e k => ok_fdiv C L H ρ σ x y v w rv Q E hv hw (by cases x <;> exact e) k⟩
  | mod => exact ⟨_, iop_mod, fun C L H ρ σ x y v w rv Q E hv hw e k => ok_mod C L H ρ σ x y v w rv Q E hv hw (by cases x <;> exact e) k⟩
  | pow => exact ⟨fun _ _ _ _ => False, fun _ _ _ _ _ _ _ _ _ _ _ _ z => z.elim, fun C L H ρ σ x y v w rv Q E hv hw e k => by cases x <;> cases e⟩
theorem ps_au {i : Nat} {x : Str} {o : B2} {m : M D} {p2 : Pos} (hN : X.N.Nodup) (hi : X.N[i]? = some x) (hx : Loc X.env.scope x) (hf : X.fn x = true ∨ X.env.scope.names.lookup x = some .local) (h : PE X e (tD R W m)) :
    PS X (.AugAssign (.Name x p2) o.op e pos) (tS R W fun ρ => toFl (mbind (rd i) (fun x => mbind m fun y => mbind (mopt (o.aug x.d y)) fun z => st i z) ρ) fun _ ρ' => .nx ρ') := by
  obtain ⟨r, ho, hr⟩ := aug_rule (X := X) (R := R) o
  refine PS.imp (ps_aug hN hi hx h (ti := r) ho hf) fun D σ H ⟨C, L, ρ, E, h⟩ => ?_
  obtain ⟨v, rv, ρ1, L1, h1, E1, S1, h2, k⟩ := run_rd E (FlK.bind2 (σ := σ) h)
  obtain ⟨L0, E0, le0, lev0, rp⟩ := h2.fz E1
  refine ⟨v, h1, C, L0, ρ1, E0, (FlK.bind2 (σ := σ) (FlK.step k ((Step.refl C L1 H).less le0) E0)).mono fun y ρ2 La H2 E2 S2 k2 w hw => ?_⟩
  have k3 := FlK.bind2 (σ := σ) k2
  obtain ⟨z, e1, k4⟩ := k3.opt
  refine hr C La H2 ρ2 σ rv.d y v w z _ E2 (Rep.le S2.vis _ _ rp) hw e1 fun L3 H3 E3 S3 u hu => ?_
  have k5 := k4 L3 H3 E3 S3
  cases q : st i z ρ2 with
  | ok u' ρ' =>
    obtain ⟨ρ'', e3, e2⟩ := run_st (i := i) (r := z) (ρ := ρ2) (by rw [q]; trivial)
    rw [q] at k5 e3
    cases e3
    subst e2
    exact k5 _ L3 H3 (E3.store i u z hu) (.refl _ _ _)
  | exc x ρ' =>
    exfalso
    unfold st at q
    split at q <;> cases q
  | bad => rw [q] at k5; exact k5.elim
/-- o[i], by values: a list -/
theorem get_list : PGet X (rIxL X.K) := fun pins s σ H o i ov iv Q I r1 r2 h => by
  obtain ⟨p, xs, k, v, rfl, rfl, hp, ha, q⟩ := h
  cases r1
  obtain ⟨t, rfl⟩ := r2
  obtain ⟨its, rv, pl, hz⟩ := I.list hp
  obtain ⟨j, h1, h2, h3, h4, h5⟩ := atI_get ha
  obtain ⟨u, hu, ru⟩ := rv.get h2
  have hl := rv.length
  have ln := line63
  by_cases h0 : 0 ≤ k
  · have e1 := ixN_seq (n := xs.length) (i := k) (j := k.toNat) (by unfold ixN; rw [if_pos h0, if_pos h5])
    rw [e1.1] at h1
    cases h1
    exact wpAny_getItem_list pl.isList h0 (by omega) (by simpa using hu) ⟨v, H, I, ru, q⟩
  · have e1 := ixN_seq (n := xs.length) (i := k) (j := (k + xs.length).toNat) (by unfold ixN; rw [if_neg h0, if_pos h4])
    rw [e1.1] at h1
    cases h1
    refine wpAny_getItem_list_neg pl.isList (by omega) (by rw [List.size_toArray, ← hl]; exact h4) (by omega) ?_ ⟨v, H, I, ru, q⟩
    rw [List.size_toArray, ← hl]
    simpa using hu
theorem ixN_at {α : Type} {xs : List α} {k : Int} {n : Nat} {x : α} (h : ixN xs.length k = some n) (hx : xs[n]? = some x) : atI xs k = some x := by
  unfold atI
  rw [h]
  exact hx
/-- o[i] op= value, o a list of one's own -/
theorem ps_oau {i : Nat} {x : Str} {o : B2} {mj m : M D} {p2 : Pos} (hK : X.K = R.K) (hN : X.N[i]? = some x) (hv : Vis X.env.scope x) (hd : (x == ("__debug__" : Str)) = false) (hcd : (x == ("__classdict__" : Str)) = false) (hj : PE X a (tD R W mj)) (h : PE X e (tD R W m))
    (ha : ∀ ov iv new, augStore a ov iv new = (do holding [new, ov, iv] (setItem ov iv new); release [new, ov, iv] []; pure .next)) :
    PS X (.AugAssign (.Subscript (.Name x p) a p2) o.op e pos) (tS R W fun ρ => toFl (mbind (own i) (fun _ => mbind mj fun y => mbind (own i) fun xs => match y with
      | .int k => match ixN xs.length k with
        | some n => match xs[n]? with
          | some x => mbind m fun z => mbind (mopt (o.aug x z)) fun r => mbind (own i) fun xs' => if xs'.length = xs.length then wr i (xs'.set n r.d) else mbad
          | none => mbad
        | none => mbad
      | _ => mbad) ρ) fun _ ρ' => .nx ρ') := by
  obtain ⟨r, ho, hr⟩ := aug_rule (X := X) (R := R) o
  refine PS.imp (ps_augS (pe_var hN hv hd hcd) hj get_list h (tip := r) ho set_list ha) fun D σ H ⟨C, L, ρ, E, h⟩ => ?_
  have h0 := FlK.bind2 (σ := σ) h
  obtain ⟨q, vs0, xs0, hi, _, _, _, _, k0⟩ := run_own E h0
  have k0 := k0 L H E (.refl _ _ _)
  refine ⟨.ref q, hi, C, L, ρ, E, (FlK.bind2 (σ := σ) k0).mono fun y ρ1 L1 H1 E1 S1 k w hw => ?_⟩
  obtain ⟨q', vs, xs, hi', hp, rr, _, _, k2⟩ := run_own E1 (FlK.bind2 (σ := σ) k)
  rw [hi] at hi'
  cases hi'
  have k2 := k2 L1 H1 E1 (.refl _ _ _)
  cases y with
  | int n =>
    cases hw
    simp only at k2
    cases q1 : ixN xs.length n with
    | none => rw [q1] at k2; exact k2.elim
    | some j =>
      rw [q1] at k2
      simp only at k2
      cases q2 : xs[j]? with
      | none => rw [q2] at k2; exact k2.elim
      | some d =>
        rw [q2] at k2
        obtain ⟨u, hu, ru⟩ := rr.get q2
        refine ⟨q, vs, n, u, rfl, rfl, by rw [hK]; exact .inl (.inl hp), ixN_at (by rw [rr.length]; exact q1) hu, C, L1, ρ1, E1, (FlK.bind2 (σ := σ) k2).mono fun z ρ2 La H2 E2 S2 k3 w' hw' => ?_⟩
        obtain ⟨rv, e1, k4⟩ := (FlK.bind2 (σ := σ) k3).opt
        refine hr C La H2 ρ2 σ d z u w' rv _ E2 (Rep.le S2.vis _ _ ru) hw' e1 fun L3 H3 E3 S3 u3 hu3 => ?_
        obtain ⟨L0, E0, le0, lev0, rp⟩ := hu3.fz E3
        have S0 : Step C L3 H3 L0 H3 := (Step.refl C L3 H3).less le0
        have k5 := FlK.bind2 (σ := σ) (FlK.step (k4 L3 H3 E3 S3) S0 E0)
        obtain ⟨q', vs3, xs3, hi', hp3, rr3, _, _, k6⟩ := run_own E0 k5
        rw [hi] at hi'
        cases hi'
        have k6 := k6 L0 H3 E0 (.refl _ _ _)
        split at k6
        · rename_i hl
          have k7 : RunK R W (wr i (xs3.set j rv.d)) σ H3 C L0 ρ2 fun _ ρ' L' H' => FlK R W (.nx ρ') C L' H' D := FlK.bind rfl k6
          obtain ⟨ρ', e2, E', S', kk⟩ := run_wr E0 k7 hi hp3 (rr3.set rp j)
          exact ⟨q, vs3, n, j, rfl, rfl, hp3, by rw [rr3.length, hl]; exact q1, kk σ L0 _ E' (.refl _ _ _)⟩
        · exact k6.elim
  | _ => exact k2.elim
/-- o.append(value), o a list of one's own -/
theorem ps_ap {i : Nat} {x : Str} {m : M D} {p2 p3 : Pos} (hK : X.K = R.K) (hN : X.N[i]? = some x) (hv : Vis X.env.scope x) (hd : (x == ("__debug__" : Str)) = false) (hcd : (x == ("__classdict__" : Str)) = false) (h : PE X e (tD R W m)) (hst : isStar e = false) (hl : (p2.endLine == p3.line) = true) :
    PS X (.Expr (.Call (.Attribute (.Name x p) "append" p2) [e] [] p3) pos) (tS R W fun ρ => toFl (mbind (own i) (fun _ => mbind m fun y => mbind (own i) fun xs => if xs.length < sizeLine then wr i (xs ++ [y]) else mbad) ρ) fun _ ρ' => .nx ρ') := by
  refine PS.imp (ps_expr (pe_bm PySem.F.plainAttrs_list PySem.F.slot_list_append PySem.F.type_list_append mt_append (pe_var hN hv hd hcd) (pa_cons h pa_nil (starEach_plain hst)) (hfew := by rw [starEach_plain hst]; rfl) (hline := hl) (hs := starEach_plain hst))) fun D σ H ⟨C, L, ρ, E, h⟩ => ?_
  have h0 := FlK.bind2 (σ := σ) h
  obtain ⟨q, vs0, xs0, hi, hp0, _, _, _, k0⟩ := run_own E h0
  have k0 := k0 L H E (.refl _ _ _)
  refine ⟨.ref q, hi, .inl ⟨rfl, vs0, .inl (.inl hp0)⟩, C, L, ρ, E, (FlK.bind2 (σ := σ) k0).mono fun y ρ1 L1 H1 E1 S1 k w hw => ?_⟩
  obtain ⟨q', vs, xs, hi', hp, rr, _, _, k2⟩ := run_own E1 (FlK.bind2 (σ := σ) k)
  rw [hi] at hi'
  cases hi'
  have k2 := k2 L1 H1 E1 (.refl _ _ _)
  split at k2
  · rename_i hl
    have k7 : RunK R W (wr i (xs ++ [y])) σ H1 C L1 ρ1 fun _ ρ' L' H' => FlK R W (.nx ρ') C L' H' D := FlK.bind rfl k2
    obtain ⟨ρ', e2, E', S', kk⟩ := run_wr E1 k7 hi hp (rr.append (.one hw))
    exact ⟨q, vs, w, rfl, rfl, hp, by rw [rr.length]; exact hl, kk σ L1 _ E' (.refl _ _ _)⟩
  · exact k2.elim
/-! ### loops -/
theorem ps_fr {ns : List Nat} {tg it : Expr} {body : List Stmt} {mi : M (List D)} {g : Rv → M Unit} {b : Env → Fl} (hp : PassesOwn (model X.prog X.w) X.A X.env X.xe) (hc : X.calm = true) (hi : PI X tg it (tIt R W mi)) (hg : PG X tg (tTg R W ns g)) (hb : PSs X body (tS R W b)) (hs : ∀ x, foldedSetIterable it X.env x = pure x) :
    PS X (.For tg it body [] pos) (tS R W fun ρ => toFl (mi ρ) fun ds ρ' => forL (fun d => g (.im d)) b ds ρ') := by
  refine PS.imp (ps_for hp hc hi hg hb hs) fun D σ H ⟨C, L, ρ, E, h⟩ => ?_
  refine ⟨C, L, ρ, E, (FlK.bind (σ := σ) rfl h).mono fun ds ρ1 L1 H1 E1 S1 k J wk => ?_⟩
  refine ⟨fun i m σ H => i ≤ ds.length ∧ m = ds.length - i ∧ ∃ L ρ, EnvOk R C L H ρ σ ∧ Step C L1 H1 L H ∧ FlK R W (forL (fun d => g (.im d)) b (ds.drop i) ρ) C L H D, ⟨ds.length, Nat.zero_le _, rfl, L1, ρ1, E1, .refl _ _ _, k⟩, ?_⟩
  rintro i m σ2 H2 ⟨hi, rfl, L2', ρ2, E2, S2, k2⟩
  have le : Le (vis C L1 H1) H2 := (S2.vis).trans (vis_le _ _ _)
  by_cases hlt : i < ds.length
  · refine .inr ⟨wk.go i H2 le hlt, fun σ' H' => ∃ L' ρ', EnvOk R C L' H' ρ' σ' ∧ Step C L1 H1 L' H' ∧ FlK R W (forL (fun d => g (.im d)) b (ds.drop (i + 1)) ρ') C L' H' D, fun σ' H' ⟨L', ρ', E', S', k'⟩ => ⟨ds.length - (i + 1), by omega, by omega, rfl, L', ρ', E', S', k'⟩, fun x H3 y => ?_⟩
    obtain ⟨d, hd, le3, rep⟩ := wk.yld i H2 x H3 le hlt y
    have E3 := E2.grow le3
    have S3 : Step C L2' H2 L2' H3 := step_grow le3
    have S13 := S2.trans E2 S3
    have rx : Rep R (vis C L2' H3) d x := rep _ S13.vis fun a o n1 n2 => vis_some.mpr ⟨(E2.notM n1).1, (E2.notM n1).2, n2⟩
    have dr : ds.drop i = d :: ds.drop (i + 1) := by
      rw [List.drop_eq_getElem_cons hlt]
      have : ds[i] = d := by
        rw [List.getElem?_eq_getElem hlt] at hd
        exact Option.some.inj hd
      rw [this]
    rw [dr] at k2
    have k3 := FlK.step k2 S3 E3
    have k4 : FlK R W (match g (.im d) ρ2 with
      | .ok _ ρ1 => match b ρ1 with
        | .nx ρ2 => forL (fun d => g (.im d)) b (ds.drop (i + 1)) ρ2
        | .ct ρ2 => forL (fun d => g (.im d)) b (ds.drop (i + 1)) ρ2
        | .bk ρ2 => .nx ρ2
        | x => x
      | .exc x ρ1 => .exc x ρ1
      | .bad => .bad) C L2' H3 D := k3
    refine ⟨C, L2', ρ2, .im d, E3, rx, ?_⟩
    cases q : g (.im d) ρ2 with
    | bad => rw [q] at k4; exact k4.elim
    | exc x ρ' => rw [q] at k4; exact fun cls dd σ' L' H' E' S' xo => k4 cls dd σ' L' H' E' S' xo
    | ok u ρ3 =>
      rw [q] at k4
      simp only at k4
      intro σ4 L4 H4 E4 S4 _
      refine ⟨C, L4, ρ3, E4, ?_⟩
      have S14 := S13.trans E3 S4
      cases q2 : b ρ3 with
      | nx ρ5 =>
        rw [q2] at k4
        exact fun σ' L' H' E' S' => ⟨L', ρ5, E', S14.trans E4 S', FlK.step (FlK.step k4 S4 E4) S' E'⟩
      | ct ρ5 =>
        rw [q2] at k4
        exact fun σ' L' H' E' S' => ⟨L', ρ5, E', S14.trans E4 S', FlK.step (FlK.step k4 S4 E4) S' E'⟩
      | bk ρ5 =>
        rw [q2] at k4
        exact fun σ' L' H' E' S' => k4 σ' L' H' E' (S4.trans E4 S')
      | rt r ρ5 =>
        rw [q2] at k4
        exact fun v σ' L' H' E' S' rv => k4 v σ' L' H' E' (S4.trans E4 S') rv
      | exc x ρ5 =>
        rw [q2] at k4
        exact fun cls dd σ' L' H' E' S' xo => k4 cls dd σ' L' H' E' (S4.trans E4 S') xo
      | bad => rw [q2] at k4; exact k4.elim
  · have e : i = ds.length := by omega
    subst e
    rw [List.drop_length] at k2
    exact .inl ⟨wk.stop _ H2 le (Nat.le_refl _), k2 σ2 L2' H2 E2 (.refl _ _ _)⟩
theorem ps_wh {body : List Stmt} {t : M Bool} {b : Env → Fl} {fu : Nat} (hp : PassesOwn (model X.prog X.w) X.A X.env X.xe) (hc : PT X c (tT R W t)) (hb : PSs X body (tS R W b)) :
    PS X (.While c body [] pos) (tS R W fun ρ => whileL t b fu ρ) := by
  refine PS.imp (ps_while hp hc hb) fun D σ H ⟨C, L, ρ, E, h⟩ => ?_
  refine ⟨fun m σ H => ∃ L ρ, EnvOk R C L H ρ σ ∧ FlK R W (whileL t b m ρ) C L H D, ⟨fu, L, ρ, E, h⟩, ?_⟩
  rintro m σ2 H2 ⟨L2', ρ2, E2, k2⟩
  cases m with
  | zero => exact k2.elim
  | succ m =>
    refine ⟨C, L2', ρ2, E2, ?_⟩
    have k3 : FlK R W (match t ρ2 with
      | .ok true ρ1 => match b ρ1 with
        | .nx ρ2 => whileL t b m ρ2
        | .ct ρ2 => whileL t b m ρ2
        | .bk ρ2 => .nx ρ2
        | x => x
      | .ok false ρ1 => .nx ρ1
      | .exc x ρ1 => .exc x ρ1
      | .bad => .bad) C L2' H2 D := k2
    unfold RunK
    cases q : t ρ2 with
    | bad => rw [q] at k3; exact k3.elim
    | exc x ρ' => rw [q] at k3; exact fun cls dd L' H' E' S' xo => k3 cls dd σ2 L' H' E' S' xo
    | ok u ρ3 =>
      rw [q] at k3
      intro L4 H4 E4 S4
      cases u with
      | false =>
        rw [if_neg Bool.false_ne_true]
        exact k3 σ2 L4 H4 E4 S4
      | true =>
        rw [if_pos rfl]
        simp only at k3
        refine ⟨fun σ' H' => ∃ L' ρ', EnvOk R C L' H' ρ' σ' ∧ FlK R W (whileL t b m ρ') C L' H' D, fun σ' H' z => ⟨m, Nat.lt_succ_self _, z⟩, C, L4, ρ3, E4, ?_⟩
        cases q2 : b ρ3 with
        | nx ρ5 =>
          rw [q2] at k3
          exact fun σ' L' H' E' S' => ⟨L', ρ5, E', FlK.step (FlK.step k3 S4 E4) S' E'⟩
        | ct ρ5 =>
          rw [q2] at k3
          exact fun σ' L' H' E' S' => ⟨L', ρ5, E', FlK.step (FlK.step k3 S4 E4) S' E'⟩
        | bk ρ5 =>
          rw [q2] at k3
          exact fun σ' L' H' E' S' => k3 σ' L' H' E' (S4.trans E4 S')
        | rt r ρ5 =>
          rw [q2] at k3
          exact fun v σ' L' H' E' S' rv => k3 v σ' L' H' E' (S4.trans E4 S') rv
        | exc x ρ5 =>
          rw [q2] at k3
          exact fun cls dd σ' L' H' E' S' xo => k3 cls dd σ' L' H' E' (S4.trans E4 S') xo
        | bad => rw [q2] at k3; exact k3.elim
end
end Pu
/-! Pu, part 14: list comprehensions. -/
namespace Pu
open PySem PySem.Spec PyProof.Rows L2 RZ

/-- the list that is made, hidden meanwhile -/
def hidC (C : Cc) (d : Addr) (acc : List V) : Cc where
  M0 := fun a => C.M0 a || decide (a = d)
  O0 := C.O0
  io := C.io
  P := fun a => if a = d then some (.lst acc) else C.P a
abbrev W0 : WX := fun _ _ _ _ => False
section
variable {R : RC} {W : WX} {C : Cc} {L : Addr → Bool} {H : Hp} {ρ : Env} {σ : L2.St}
theorem hidC_M {d : Addr} {acc : List V} {a : Addr} : (hidC C d acc).M0 a = false ↔ C.M0 a = false ∧ a ≠ d := by
  show (C.M0 a || decide (a = d)) = false ↔ _
  rw [Bool.or_eq_false_iff, decide_eq_false_iff_not]
theorem hidC_vis {d : Addr} {acc : List V} {a : Addr} {o : HO} : vis (hidC C d acc) L H a = some o ↔ vis C L H a = some o ∧ a ≠ d := by
  rw [vis_some, vis_some, hidC_M]
  constructor
  · rintro ⟨⟨h1, h2⟩, h3, h4⟩
    exact ⟨⟨h1, h3, h4⟩, h2⟩
  · rintro ⟨⟨h1, h3, h4⟩, h2⟩
    exact ⟨⟨h1, h2⟩, h3, h4⟩
theorem EnvOk.hide (E : EnvOk R C L H ρ σ) {d : Addr} (nd : H d = none) : EnvOk R (hidC C d []) L (upd H d (.lst [])) ρ σ := by
  have E1 := E.new (o := .lst []) nd
  have ne : ∀ {b : Addr} {o : HO}, H b = some o → b ≠ d := fun h z => by rw [z, nd] at h; cases h
  have le : Le (vis C L H) (vis (hidC C d []) L (upd H d (.lst []))) := fun a o h => by
    have h' := vis_some.mp h
    exact hidC_vis.mpr ⟨vis_some.mpr ⟨h'.1, h'.2.1, Le.new nd a o h'.2.2⟩, ne h'.2.2⟩
  refine ⟨E.len, fun i s hs => ?_, E.inj, E.ioj, fun a l => ⟨hidC_M.mpr ⟨(E.fr a l).1, fun z => (E.fr a l).2.2 (by rw [z]; exact nd)⟩, ?_, (E1.fr a l).2.2⟩, fun a o => ⟨?_, ?_⟩, fun a o h => ?_, fun a h => ?_⟩
  · have q := E.sl i s hs
    cases s with
    | no => trivial
    | im dd => obtain ⟨x, e, r⟩ := q; exact ⟨x, e, r.le le⟩
    | ow xs => obtain ⟨b, vs, e, l, hb, r⟩ := q; exact ⟨b, vs, e, l, Le.new nd _ _ hb, r.le le⟩
    | io xs => obtain ⟨e, o, vs, hb, r⟩ := q; exact ⟨e, o, vs, Le.new nd _ _ hb, r.le le⟩
  · show (if a = d then some (HO.lst []) else C.P a) = none
    rw [if_neg fun z => (E.fr a l).2.2 (by rw [z]; exact nd)]
    exact (E.fr a l).2.1
  · show (C.M0 a || decide (a = d)) = true
    rw [(E.o0 a o).1, Bool.true_or]
  · have hn : a ≠ d := fun z => E.lv a (E.o0 a o).1 (by rw [z]; exact nd)
    show (if a = d then some (HO.lst []) else C.P a) = none
    rw [if_neg hn]
    exact (E.o0 a o).2
  · have h' : (if a = d then some (HO.lst []) else C.P a) = some o := h
    by_cases z : a = d
    · rw [if_pos z] at h'
      rw [z, upd_same]
      exact h'
    · rw [if_neg z] at h'
      rw [upd_ne z]
      exact E.pr a o h'
  · have h' : (C.M0 a || decide (a = d)) = true := h
    rw [Bool.or_eq_true, decide_eq_true_eq] at h'
    rcases h' with z | z
    · exact E1.lv a z
    · rw [z, upd_same]
      exact fun z => by cases z
theorem EnvOk.acc (d : Addr) {acc acc' : List V} (E : EnvOk R (hidC C d acc) L H ρ σ) : EnvOk R (hidC C d acc') L (upd H d (.lst acc')) ρ σ := by
  have le : Le (vis (hidC C d acc) L H) (vis (hidC C d acc') L (upd H d (.lst acc'))) := fun a o h => by
    obtain ⟨h1, h2⟩ := hidC_vis.mp h
    have h' := vis_some.mp h1
    exact hidC_vis.mpr ⟨vis_some.mpr ⟨h'.1, h'.2.1, by rw [upd_ne h2]; exact h'.2.2⟩, h2⟩
  have nn : ∀ b, H b ≠ none → upd H d (.lst acc') b ≠ none := fun b hb => by
    by_cases z : b = d
    · rw [z, upd_same]
      exact fun z => by cases z
    · rw [upd_ne z]
      exact hb
  have od : ∀ a, C.O0 a = true → a ≠ d := fun a o z => by
    have h := (E.o0 a o).2
    have h' : (if a = d then some (HO.lst acc) else C.P a) = none := h
    rw [if_pos z] at h'
    cases h'
  refine ⟨E.len, fun i s hs => ?_, E.inj, E.ioj, fun a l => ⟨(E.fr a l).1, ?_, nn a (E.fr a l).2.2⟩, fun a o => ⟨(E.o0 a o).1, ?_⟩, fun a o h => ?_, fun a h => nn a (E.lv a h)⟩
  · have q := E.sl i s hs
    cases s with
    | no => trivial
    | im dd => obtain ⟨x, e, r⟩ := q; exact ⟨x, e, r.le le⟩
    | ow xs =>
      obtain ⟨b, vs, e, l, hb, r⟩ := q
      exact ⟨b, vs, e, l, by rw [upd_ne (hidC_M.mp (E.fr b l).1).2]; exact hb, r.le le⟩
    | io xs => obtain ⟨e, o, vs, hb, r⟩ := q; exact ⟨e, o, vs, (upd_ne (od _ o)).trans hb, r.le le⟩
  · have hn := (hidC_M.mp (E.fr a l).1).2
    have h' : (if a = d then some (HO.lst acc) else C.P a) = none := (E.fr a l).2.1
    rw [if_neg hn] at h'
    show (if a = d then some (HO.lst acc') else C.P a) = none
    rw [if_neg hn]
    exact h'
  · have h' : (if a = d then some (HO.lst acc) else C.P a) = none := (E.o0 a o).2
    rw [if_neg (od a o)] at h'
    show (if a = d then some (HO.lst acc') else C.P a) = none
    rw [if_neg (od a o)]
    exact h'
  · have h' : (if a = d then some (HO.lst acc') else C.P a) = some o := h
    by_cases z : a = d
    · rw [if_pos z] at h'
      rw [z, upd_same]
      exact h'
    · rw [if_neg z] at h'
      rw [upd_ne z]
      refine E.pr a o ?_
      show (if a = d then some (HO.lst acc) else C.P a) = some o
      rw [if_neg z]
      exact h'
theorem Step.under {d : Addr} {acc : List V} {L1 L2' : Addr → Bool} {H1 H2 : Hp} {ρ' : Env} {σ' : L2.St} (S : Step C L H L1 H1) (E : EnvOk R (hidC C d acc) L1 H1 ρ' σ') (T : Step (hidC C d acc) L1 H1 L2' H2) (nd : H d = none) : Step C L H L2' H2 := by
  refine ⟨fun a h => ?_, fun a o h m l => ?_⟩
  · rcases T.l a h with z | z
    · exact S.l a z
    · cases e : H a with
      | none => exact .inr rfl
      | some o =>
        cases m : C.M0 a with
        | true => exact absurd z (E.lv a (by show (C.M0 a || decide (a = d)) = true; rw [m, Bool.true_or]))
        | false =>
          cases l : L a with
          | true => exact .inl rfl
          | false =>
            rw [S.k a o e m l] at z
            cases z
  · have hn : a ≠ d := fun z => by rw [z, nd] at h; cases h
    refine T.k a o (S.k a o h m l) (hidC_M.mpr ⟨m, hn⟩) ?_
    cases e : L1 a with
    | false => rfl
    | true =>
      rcases S.l a e with z | z
      · rw [l] at z; cases z
      · rw [h] at z; cases z
theorem Step.accS {d : Addr} {acc' : List V} {L1 : Addr → Bool} {H1 : Hp} (S : Step C L H L1 H1) (nd : H d = none) : Step C L H L1 (upd H1 d (.lst acc')) := ⟨S.l, fun a o h m l => by
  have hn : a ≠ d := fun z => by rw [z, nd] at h; cases h
  rw [upd_ne hn]
  exact S.k a o h m l⟩
theorem Step.visH {d : Addr} {acc : List V} {L1 : Addr → Bool} {H1 : Hp} (S : Step C L H L1 H1) (nd : H d = none) : Le (Pu.vis C L H) (Pu.vis (hidC C d acc) L1 H1) := fun a o h => by
  refine hidC_vis.mpr ⟨S.vis a o h, fun z => ?_⟩
  have := (vis_some.mp h).2.2
  rw [z, nd] at this
  cases this
/-! ### the names of the block -/
theorem EnvOk.clear (E : EnvOk R C L H ρ σ) (i : Nat) : EnvOk R C L H (ρ.set i .no) (σ.set i none) := by
  have get : ∀ j t, (ρ.set i .no)[j]? = some t → (j = i ∧ t = .no) ∨ (j ≠ i ∧ ρ[j]? = some t) := fun j t hj => by
    by_cases e : i = j
    · subst e
      by_cases hl : i < ρ.length
      · rw [List.getElem?_set_self hl] at hj
        cases hj
        exact .inl ⟨rfl, rfl⟩
      · rw [List.getElem?_eq_none (by simpa using hl)] at hj
        cases hj
    · rw [List.getElem?_set_ne e] at hj
      exact .inr ⟨fun z => e z.symm, hj⟩
  have at2 : ∀ j, j ≠ i → slAt (σ.set i none) j = slAt σ j := fun j hj => by
    unfold slAt
    rw [List.getElem?_set_ne (fun z => hj z.symm)]
  refine ⟨by rw [List.length_set, List.length_set, E.len], fun j t hj => ?_, fun j k xs ys hjk h1 h2 => ?_, fun j k xs ys hjk h1 h2 => ?_, E.fr, E.o0, E.pr, E.lv⟩
  · rcases get j t hj with ⟨_, rfl⟩ | ⟨hne, q⟩
    · trivial
    · rw [at2 j hne]
      exact E.sl j t q
  · rcases get j _ h1 with ⟨_, q⟩ | ⟨n1, q1⟩
    · cases q
    · rcases get k _ h2 with ⟨_, q⟩ | ⟨n2, q2⟩
      · cases q
      · rw [at2 j n1, at2 k n2]
        exact E.inj j k xs ys hjk q1 q2
  · rcases get j _ h1 with ⟨_, q⟩ | ⟨_, q1⟩
    · cases q
    · rcases get k _ h2 with ⟨_, q⟩ | ⟨_, q2⟩
      · cases q
      · exact E.ioj j k xs ys hjk q1 q2
theorem EnvOk.lose (E : EnvOk R C L H ρ σ) (i : Nat) : EnvOk R C L H (ρ.set i .no) σ := by
  have get : ∀ j t, (ρ.set i .no)[j]? = some t → t = Sl.no ∨ ρ[j]? = some t := fun j t hj => by
    by_cases e : i = j
    · subst e
      by_cases hl : i < ρ.length
      · rw [List.getElem?_set_self hl] at hj
        cases hj
        exact .inl rfl
      · rw [List.getElem?_eq_none (by simpa using hl)] at hj
        cases hj
    · rw [List.getElem?_set_ne e] at hj
      exact .inr hj
  refine ⟨by rw [List.length_set, E.len], fun j t hj => ?_, fun j k xs ys hjk h1 h2 => ?_, fun j k xs ys hjk h1 h2 => ?_, E.fr, E.o0, E.pr, E.lv⟩
  · rcases get j t hj with rfl | q
    · trivial
    · exact E.sl j t q
  · rcases get j _ h1 with q | q1
    · cases q
    · rcases get k _ h2 with q | q2
      · cases q
      · exact E.inj j k xs ys hjk q1 q2
  · rcases get j _ h1 with q | q1
    · cases q
    · rcases get k _ h2 with q | q2
      · cases q
      · exact E.ioj j k xs ys hjk q1 q2
theorem EnvOk.forget (E : EnvOk R C L H ρ σ) : ∀ vs : List Nat, EnvOk R C L H (wipeE ρ vs) σ
  | [] => E
  | v :: vs => (EnvOk.forget E vs).lose v
theorem EnvOk.wiped (E : EnvOk R C L H ρ σ) : ∀ vs : List Nat, EnvOk R C L H (wipeE ρ vs) (wipe σ vs)
  | [] => E
  | v :: vs => (EnvOk.wiped E vs).clear v
theorem wipe_get {σ : L2.St} {j : Nat} : ∀ {vs : List Nat}, j ∉ vs → (wipe σ vs)[j]? = σ[j]? := fun {vs} h => wipe_out h
theorem wipe_in {σ : L2.St} {j : Nat} : ∀ {vs : List Nat}, j ∈ vs → (wipe σ vs)[j]? = if j < σ.length then some none else none
  | [], h => by cases h
  | v :: vs, h => by
    unfold wipe
    by_cases e : v = j
    · subst e
      by_cases hl : v < σ.length
      · rw [List.getElem?_set_self (by rw [wipe_length]; exact hl), if_pos hl]
      · rw [List.getElem?_eq_none (by rw [List.length_set, wipe_length]; omega), if_neg hl]
    · rw [List.getElem?_set_ne e]
      rcases List.mem_cons.mp h with z | z
      · exact absurd z.symm e
      · exact wipe_in z
theorem wipe_off {σ σ2 : L2.St} {ns vs : List Nat} (o : Off ns (wipe σ vs) σ2) (hn : ∀ j ∈ ns, j ∈ vs) : wipe σ2 vs = wipe σ vs := by
  apply List.ext_getElem?
  intro j
  by_cases h : j ∈ vs
  · rw [wipe_in h, wipe_in h, o.1, wipe_length]
  · rw [wipe_get h]
    exact o.2 j fun z => h (hn j z)
theorem wipeE_get {j : Nat} : ∀ {vs : List Nat}, j ∉ vs → (wipeE ρ vs)[j]? = ρ[j]?
  | [], _ => rfl
  | v :: vs, h => by
    unfold wipeE
    rw [List.getElem?_set_ne (fun z => h (by rw [z]; exact List.mem_cons_self)), wipeE_get fun z => h (List.mem_cons_of_mem _ z)]
theorem backE_get {ρ0 : Env} {j : Nat} : ∀ {vs : List Nat}, j ∉ vs → (backE ρ0 ρ vs)[j]? = ρ[j]?
  | [], _ => rfl
  | v :: vs, h => by
    unfold backE
    rw [List.getElem?_set_ne (fun z => h (by rw [z]; exact List.mem_cons_self)), backE_get fun z => h (List.mem_cons_of_mem _ z)]
theorem backE_len {ρ0 : Env} : ∀ vs : List Nat, (backE ρ0 ρ vs).length = ρ.length
  | [] => rfl
  | v :: vs => by
    unfold backE
    rw [List.length_set, backE_len vs]
theorem wipeE_len : ∀ vs : List Nat, (wipeE ρ vs).length = ρ.length
  | [] => rfl
  | v :: vs => by
    unfold wipeE
    rw [List.length_set, wipeE_len vs]
theorem backE_in {ρ0 : Env} {j : Nat} : ∀ {vs : List Nat}, j ∈ vs → (backE ρ0 ρ vs)[j]? = if j < ρ.length then some ((ρ0[j]?).getD .no) else none
  | [], h => by cases h
  | v :: vs, h => by
    unfold backE
    by_cases e : v = j
    · subst e
      by_cases hl : v < ρ.length
      · rw [List.getElem?_set_self (by rw [backE_len]; exact hl), if_pos hl]
      · rw [List.getElem?_eq_none (by rw [List.length_set, backE_len]; omega), if_neg hl]
    · rw [List.getElem?_set_ne e]
      rcases List.mem_cons.mp h with z | z
      · exact absurd z.symm e
      · exact backE_in z
/-- the list that was made is one's own -/
theorem EnvOk.show' {ρ1 ρ2 : Env} {L1 L2' : Addr → Bool} {H1 H2 : Hp} {d : Addr} {acc : List V} {vs : List Nat} (E1 : EnvOk R C L1 H1 ρ1 σ) (no : noOwn ρ1 vs = true) (nd : H1 d = none) (S : Step C L1 H1 L2' H2) (E : EnvOk R (hidC C d acc) L2' H2 (wipeE ρ2 vs) (wipe σ vs)) (hd : H2 d = some (.lst acc)) :
    EnvOk R C (addL L2' d) H2 (backE ρ1 ρ2 vs) σ ∧ Step C L1 H1 (addL L2' d) H2 ∧ vis C (addL L2' d) H2 = vis (hidC C d acc) L2' H2 ∧ ∀ i xs, (backE ρ1 ρ2 vs)[i]? = some (.ow xs) → slAt σ i ≠ some (.ref d) := by
  have ev : vis C (addL L2' d) H2 = vis (hidC C d acc) L2' H2 := by
    funext a
    unfold vis hid addL hidC
    simp only [Bool.or_assoc, Bool.or_comm]
  have S' : Step C L1 H1 (addL L2' d) H2 := ⟨fun a h => by
    rcases addL_iff.mp h with z | z
    · exact S.l a z
    · rw [z]; exact .inr nd, S.k⟩
  have le : Le (vis C L1 H1) (vis C (addL L2' d) H2) := S'.vis
  have len : ρ2.length = σ.length := by
    have := E.len
    rw [wipeE_len, wipe_length] at this
    exact this
  have inV : ∀ j s, j ∈ vs → (backE ρ1 ρ2 vs)[j]? = some s → s = .no ∨ ∃ dd, s = .im dd ∧ ρ1[j]? = some (.im dd) := fun j s hj h => by
    rw [backE_in hj] at h
    split at h
    · have n := List.all_eq_true.mp no j hj
      cases e : ρ1[j]? with
      | none => rw [e] at h; cases h; exact .inl rfl
      | some t =>
        rw [e] at h
        cases h
        rw [e] at n
        cases t with
        | no => exact .inl rfl
        | im dd => exact .inr ⟨dd, rfl, rfl⟩
        | ow _ => cases n
        | io _ => cases n
    · cases h
  have outV : ∀ j s, j ∉ vs → (backE ρ1 ρ2 vs)[j]? = some s → (wipeE ρ2 vs)[j]? = some s ∧ slAt (wipe σ vs) j = slAt σ j := fun j s hj h => by
    rw [backE_get hj] at h
    refine ⟨by rw [wipeE_get hj]; exact h, ?_⟩
    unfold slAt
    rw [wipe_get hj]
  have ow : ∀ j xs, (backE ρ1 ρ2 vs)[j]? = some (.ow xs) → j ∉ vs := fun j xs h z => by
    rcases inV j _ z h with e | ⟨_, e, _⟩ <;> cases e
  have ioo : ∀ j xs, (backE ρ1 ρ2 vs)[j]? = some (.io xs) → j ∉ vs := fun j xs h z => by
    rcases inV j _ z h with e | ⟨_, e, _⟩ <;> cases e
  have dM : C.M0 d = false ∧ C.P d = none := by
    refine ⟨(E1.notM nd).1, ?_⟩
    cases e : C.P d with
    | none => rfl
    | some o => rw [E1.pr d o e] at nd; cases nd
  refine ⟨⟨by rw [backE_len, len], fun j s h => ?_, fun i j xs ys hij h1 h2 => ?_, fun i j xs ys hij h1 h2 => ?_, fun a l => ?_, fun a o => ?_, fun a o h => ?_, fun a h => ?_⟩, S', ev, fun i xs h z => ?_⟩
  · by_cases hj : j ∈ vs
    · rcases inV j s hj h with rfl | ⟨dd, rfl, e⟩
      · trivial
      · obtain ⟨x, e1, r⟩ := E1.sl j _ e
        exact ⟨x, e1, r.le le⟩
    · obtain ⟨q1, q2⟩ := outV j s hj h
      have so := E.sl j s q1
      rw [q2] at so
      cases s with
      | no => trivial
      | im dd => obtain ⟨x, e1, r⟩ := so; exact ⟨x, e1, by rw [ev]; exact r⟩
      | ow xs => obtain ⟨b, bs, e1, l, hb, r⟩ := so; exact ⟨b, bs, e1, addL_iff.mpr (.inl l), hb, by rw [ev]; exact r⟩
      | io xs => obtain ⟨e1, o, bs, hb, r⟩ := so; exact ⟨e1, o, bs, hb, by rw [ev]; exact r⟩
  · obtain ⟨q1, q2⟩ := outV i _ (ow i xs h1) h1
    obtain ⟨q3, q4⟩ := outV j _ (ow j ys h2) h2
    rw [← q2, ← q4]
    exact E.inj i j xs ys hij q1 q3
  · exact E.ioj i j xs ys hij (outV i _ (ioo i xs h1) h1).1 (outV j _ (ioo j ys h2) h2).1
  · rcases addL_iff.mp l with z | z
    · have hn := (hidC_M.mp (E.fr a z).1)
      have h' : (if a = d then some (HO.lst acc) else C.P a) = none := (E.fr a z).2.1
      rw [if_neg hn.2] at h'
      exact ⟨hn.1, h', (E.fr a z).2.2⟩
    · rw [z, hd]
      exact ⟨dM.1, dM.2, fun z => by cases z⟩
  · exact E1.o0 a o
  · by_cases z : a = d
    · rw [z, dM.2] at h
      cases h
    · refine E.pr a o ?_
      show (if a = d then some (HO.lst acc) else C.P a) = some o
      rw [if_neg z]
      exact h
  · exact E.lv a (by show (C.M0 a || decide (a = d)) = true; rw [h, Bool.true_or])
  · obtain ⟨q1, q2⟩ := outV i _ (ow i xs h) h
    obtain ⟨b, bs, e1, l, _⟩ := E.sl i _ q1
    rw [q2, z] at e1
    cases e1
    exact (hidC_M.mp (E.fr _ l).1).2 rfl
/-- the reading of a comprehension -/
theorem lc_of {ns vs : List Nat} {mi : M (List D)} {g : Rv → M Unit} {t : M Bool} {e : M D} {Q : VK} (hn : ∀ j ∈ ns, j ∈ vs) (h : tR R W (compM mi (fun d => g (.im d)) t e vs) σ H Q) : tLc (tIt R W mi) (tTg R W0 ns g) (tT R W0 t) (tD R W0 e) vs σ H Q := by
  obtain ⟨C, L, ρ, E, h⟩ := h
  refine ⟨C, L, ρ, E, ?_⟩
  unfold RunK compM at h
  unfold RunK
  cases q : mi ρ with
  | bad => rw [q] at h; exact h.elim
  | exc x ρ' => rw [q] at h; exact h
  | ok ds ρ1 =>
    rw [q] at h
    simp only at h
    intro L1 H1 E1 S1 J wk d nd
    cases no : noOwn ρ1 vs with
    | false => rw [no] at h; exact h.elim
    | true =>
      rw [no] at h
      simp only [if_true] at h
      cases q2 : compL (fun d => g (.im d)) t e vs ds [] ρ1 with
      | bad => rw [q2] at h; exact h.elim
      | exc x ρ' => rw [q2] at h; exact h.elim
      | ok ys ρ2 =>
        rw [q2] at h
        simp only at h
        refine ⟨fun i m H => i ≤ ds.length ∧ m = ds.length - i ∧ ∃ L ρ' acc zs, EnvOk R (hidC C d acc) L H (wipeE ρ' vs) (wipe σ vs) ∧ H d = some (.lst acc) ∧ Reps R (vis (hidC C d acc) L H) zs acc ∧ Step C L1 H1 L H ∧ compL (fun d => g (.im d)) t e vs (ds.drop i) zs ρ' = .ok ys ρ2,
          ⟨ds.length, Nat.zero_le _, rfl, L1, ρ1, [], [], (E1.hide nd).wiped vs, upd_same, rfl, step_grow (.new nd), q2⟩, ?_⟩
        rintro i m H2 ⟨hi, rfl, L2', ρ', acc, zs, E2, hd, rz, S2, k⟩
        have le : Le (vis C L1 H1) (vis (hidC C d acc) L2' H2) := S2.visH nd
        by_cases hlt : i < ds.length
        · refine .inr ⟨wk.go i H2 (le.trans (vis_le _ _ _)) hlt, fun H => ∃ L ρ' acc zs, EnvOk R (hidC C d acc) L H (wipeE ρ' vs) (wipe σ vs) ∧ H d = some (.lst acc) ∧ Reps R (vis (hidC C d acc) L H) zs acc ∧ Step C L1 H1 L H ∧ compL (fun d => g (.im d)) t e vs (ds.drop (i + 1)) zs ρ' = .ok ys ρ2,
            fun H' z => ⟨ds.length - (i + 1), by omega, by omega, rfl, z⟩, fun x H3 y => ?_⟩
          obtain ⟨dd, hdd, le3, rep⟩ := wk.yld i H2 x H3 (le.trans (vis_le _ _ _)) hlt y
          have dr : ds.drop i = dd :: ds.drop (i + 1) := by
            rw [List.drop_eq_getElem_cons hlt]
            have : ds[i] = dd := by
              rw [List.getElem?_eq_getElem hlt] at hdd
              exact Option.some.inj hdd
            rw [this]
          rw [dr] at k
          have E3 := E2.grow le3
          have T3 : Step (hidC C d acc) L2' H2 L2' H3 := step_grow le3
          have S3 : Step C L1 H1 L2' H3 := S2.under E2 T3 nd
          have rx : Rep R (vis (hidC C d acc) L2' H3) dd x := rep _ (le.trans T3.vis) fun a o n1 n2 => vis_some.mpr ⟨(E2.notM n1).1, (E2.notM n1).2, n2⟩
          have rz3 := Reps.le T3.vis _ _ rz
          have hd3 := le3 _ _ hd
          refine ⟨hidC C d acc, L2', wipeE ρ' vs, .im dd, E3, rx, ?_⟩
          unfold compL at k
          cases q3 : g (.im dd) (wipeE ρ' vs) with
          | bad => rw [q3] at k; cases k
          | exc x ρ'' => rw [q3] at k; cases k
          | ok u ρ3 =>
            rw [q3] at k
            simp only at k
            intro σ4 L4 H4 E4 T4 off
            have wp : wipe σ4 vs = wipe σ vs := wipe_off off hn
            refine ⟨wp, hidC C d acc, L4, ρ3, E4, ?_⟩
            unfold RunK
            cases q4 : t ρ3 with
            | bad => rw [q4] at k; cases k
            | exc x ρ'' => rw [q4] at k; cases k
            | ok b ρ4 =>
              rw [q4] at k
              intro L5 H5 E5 T5
              have T45 := T4.trans E4 T5
              have S5 : Step C L1 H1 L5 H5 := S3.under E3 T45 nd
              have hd5 : H5 d = some (.lst acc) := E5.pr d _ (by show (if d = d then some (HO.lst acc) else C.P d) = _; rw [if_pos rfl])
              cases b with
              | false =>
                exact ⟨L5, ρ4, acc, zs, by rw [← wp]; exact E5.wiped vs, hd5, Reps.le T45.vis _ _ rz3, S5, k⟩
              | true =>
                refine ⟨hidC C d acc, L5, ρ4, E5, ?_⟩
                unfold RunK
                simp only at k
                cases q5 : e ρ4 with
                | bad => rw [q5] at k; cases k
                | exc x ρ'' => rw [q5] at k; cases k
                | ok yy ρ5 =>
                  rw [q5] at k
                  simp only at k
                  intro L6 H6 E6 T6 v hv
                  have T46 := T45.trans E5 T6
                  have hd6 : H6 d = some (.lst acc) := E6.pr d _ (by show (if d = d then some (HO.lst acc) else C.P d) = _; rw [if_pos rfl])
                  have S6 : Step C L1 H1 L6 H6 := S3.under E3 T46 nd
                  have rz6 := Reps.le T46.vis _ _ rz3
                  split at k
                  · rename_i hz
                    refine ⟨acc, hd6, by rw [rz6.length]; exact hz, L6, ρ5, acc ++ [v], zs ++ [yy], by rw [← wp]; exact (E6.acc d).wiped vs, upd_same, ?_, S6.accS nd, k⟩
                    have lev : Le (vis (hidC C d acc) L6 H6) (vis (hidC C d (acc ++ [v])) L6 (upd H6 d (.lst (acc ++ [v])))) := fun a o h => by
                      obtain ⟨h1, h2⟩ := hidC_vis.mp h
                      have h' := vis_some.mp h1
                      exact hidC_vis.mpr ⟨vis_some.mpr ⟨h'.1, h'.2.1, by rw [upd_ne h2]; exact h'.2.2⟩, h2⟩
                    exact (Reps.le lev _ _ rz6).append (.one (Rep.le lev _ _ hv))
                  · cases k
        · have ei : i = ds.length := by omega
          subst ei
          rw [List.drop_length] at k
          have k' : Res.ok zs ρ' = Res.ok ys ρ2 := k
          cases k'
          obtain ⟨Ef, Sf, ev, no2⟩ := E1.show' no nd S2 E2 hd
          exact .inl ⟨wk.stop _ H2 (le.trans (vis_le _ _ _)) (Nat.le_refl _), h _ H2 Ef (S1.trans E1 Sf) (.ref d) ⟨d, acc, rfl, addL_iff.mpr (.inr rfl), hd, by rw [ev]; exact rz, no2⟩⟩
end
end Pu
/-! Pu, part 15: comprehensions and pairs in statements, pop. -/
namespace Pu
open PySem PySem.Spec PyProof.Rows L2 RZ
section
variable {R : RC} {W : WX} {X : Cx} {a b c e elt tg iter : Expr} {ifs : List Expr} {scope : Scope} {own0 : List (Str × Nat)} {pos p : Pos} {ns : List Nat} {mi : M (List D)} {g : Rv → M Unit} {t : M Bool} {m : M D}
theorem pe_cp (hc : X.calm = true) (hN : X.N.Nodup) (hi : PI X tg iter (tIt R W mi)) (ok : BlkOk X.N X.env.scope scope own0) (hg : ∀ (s : Shared) (H : Hp) (C : Addr) (cl : List (Str × Addr)) (fp : List Addr), PG (X.blk s H scope (compEnvC scope cl C X.env) fp) tg (tTg R W0 ns g))
    (ht : ∀ (s : Shared) (H : Hp) (C : Addr) (cl : List (Str × Addr)) (fp : List Addr), PTs (X.blk s H scope (compEnvC scope cl C X.env) fp) ifs (tT R W0 t)) (he : ∀ (s : Shared) (H : Hp) (C : Addr) (cl : List (Str × Addr)) (fp : List Addr), PE (X.blk s H scope (compEnvC scope cl C X.env) fp) elt (tD R W0 m))
    (hs : ∀ x, foldedSetIterable iter X.env x = pure x) (hn : ∀ j ∈ ns, j ∈ own0.map (·.2)) : PE X (.ListComp elt [⟨tg, iter, ifs, 0⟩] scope pos) (tR R W (compM mi (fun d => g (.im d)) t m (own0.map (·.2)))) :=
  PE.imp (pe_lc hc hN hi ok hg ht he hs) fun σ H Q h => lc_of hn h
theorem ps_cp {i : Nat} {y : Str} {py spos : Pos} (hc : X.calm = true) (hN : X.N.Nodup) (hy : X.N[i]? = some y) (hyl : X.env.scope.names.lookup y = some .local) (hsw : swapsWith (.ListComp elt [⟨tg, iter, ifs, 0⟩] scope pos) (some (.Name y py)) spos.line X.env = pure true) (hi : PI X tg iter (tIt R W mi)) (ok : BlkOk X.N X.env.scope scope own0) (hg : ∀ (s : Shared) (H : Hp) (C : Addr) (cl : List (Str × Addr)) (fp : List Addr), PG (X.blk s H scope (compEnvC scope cl C X.env) fp) tg (tTg R W0 ns g))
    (ht : ∀ (s : Shared) (H : Hp) (C : Addr) (cl : List (Str × Addr)) (fp : List Addr), PTs (X.blk s H scope (compEnvC scope cl C X.env) fp) ifs (tT R W0 t)) (he : ∀ (s : Shared) (H : Hp) (C : Addr) (cl : List (Str × Addr)) (fp : List Addr), PE (X.blk s H scope (compEnvC scope cl C X.env) fp) elt (tD R W0 m))
    (hs : ∀ x, foldedSetIterable iter X.env x = pure x) (hn : ∀ j ∈ ns, j ∈ own0.map (·.2)) : PS X (.Assign [.Name y py] (.ListComp elt [⟨tg, iter, ifs, 0⟩] scope pos) spos) (tS R W fun ρ => toFl (mbind (compM mi (fun d => g (.im d)) t m (own0.map (·.2))) (st i) ρ) fun _ ρ' => .nx ρ') :=
  PS.imp (ps_setLc hc hN hy hyl hsw hi ok hg ht he hs) fun D σ H ⟨C, L, ρ, E, h⟩ => lc_of (W := W) hn ⟨C, L, ρ, E, (FlK.bind2 (σ := σ) h).mono fun r ρ1 L1 H1 E1 S1 k v rv => by
    show D.nx (σ.set i (some v)) H1
    cases q : st i r ρ1 with
    | ok u ρ' =>
      obtain ⟨ρ'', e1, e2⟩ := run_st (i := i) (r := r) (ρ := ρ1) (by rw [q]; trivial)
      rw [q] at k e1
      cases e1
      subst e2
      exact k _ L1 H1 (E1.store i v r rv) (.refl _ _ _)
    | exc x ρ' =>
      exfalso
      unfold st at q
      split at q <;> cases q
    | bad => rw [q] at k; exact k.elim⟩
/-- tests: none, one -/
theorem pts_nl : PTs X [] (tT R W (mret true)) := ⟨fun pins s σ H Q I ⟨C, L, ρ, E, h⟩ => pts_nil.run pins s σ H Q I (h.ret L H E (.refl _ _ _))⟩
theorem pts_on {m : M Bool} (h : PT X c (tT R W m)) : PTs X [c] (tT R W (mbind m fun k => match k with
    | true => mret true
    | false => mret false)) := ⟨fun pins s σ H Q I ⟨C, L, ρ, E, h2⟩ => (pts_one h).run pins s σ H Q I ⟨C, L, ρ, E, h2.bind.mono fun x ρ1 L1 H1 E1 S1 k => by cases x <;> exact k.ret L1 H1 E1 (.refl _ _ _) (.refl _ _ _)⟩⟩
/-! ### a pair of values, the first one held meanwhile -/
theorem EnvOk.prot {C : Cc} {L : Addr → Bool} {H : Hp} {ρ : Env} {σ : L2.St} (E : EnvOk R C L H ρ σ) {d : Addr} {vs : List V} (ld : L d = true) (hd : H d = some (.lst vs)) (nd : ∀ i xs, ρ[i]? = some (.ow xs) → slAt σ i ≠ some (.ref d)) :
    EnvOk R (hidC C d vs) (subL L d) H ρ σ ∧ vis (hidC C d vs) (subL L d) H = vis C L H := by
  have ev : vis (hidC C d vs) (subL L d) H = vis C L H := by
    funext x
    unfold vis hid hidC subL
    by_cases z : x = d
    · subst z
      simp [ld]
    · simp [z]
  have f := E.fr d ld
  refine ⟨⟨E.len, fun i s hs => ?_, E.inj, E.ioj, fun x l => ?_, fun x o => ⟨by show (C.M0 x || decide (x = d)) = true; rw [(E.o0 x o).1, Bool.true_or], ?_⟩, fun x o h => ?_, fun x h => ?_⟩, ev⟩
  · have q := E.sl i s hs
    cases s with
    | no => trivial
    | im dd => obtain ⟨x, e, r⟩ := q; exact ⟨x, e, by rw [ev]; exact r⟩
    | ow xs =>
      obtain ⟨b, bs, e, l, hb, r⟩ := q
      exact ⟨b, bs, e, subL_iff.mpr ⟨l, fun z => nd i xs hs (by rw [e, z])⟩, hb, by rw [ev]; exact r⟩
    | io xs => obtain ⟨e, o, bs, hb, r⟩ := q; exact ⟨e, o, bs, hb, by rw [ev]; exact r⟩
  · obtain ⟨l1, l2⟩ := subL_iff.mp l
    refine ⟨hidC_M.mpr ⟨(E.fr x l1).1, l2⟩, ?_, (E.fr x l1).2.2⟩
    show (if x = d then some (HO.lst vs) else C.P x) = none
    rw [if_neg l2]
    exact (E.fr x l1).2.1
  · have : x ≠ d := fun z => by
      have := (E.o0 x o).1
      rw [z, f.1] at this
      cases this
    show (if x = d then some (HO.lst vs) else C.P x) = none
    rw [if_neg this]
    exact (E.o0 x o).2
  · have h' : (if x = d then some (HO.lst vs) else C.P x) = some o := h
    by_cases z : x = d
    · rw [if_pos z] at h'
      rw [z, hd]
      exact h'
    · rw [if_neg z] at h'
      exact E.pr x o h'
  · have h' : (C.M0 x || decide (x = d)) = true := h
    rw [Bool.or_eq_true, decide_eq_true_eq] at h'
    rcases h' with z | z
    · exact E.lv x z
    · rw [z]; exact f.2.2
theorem EnvOk.unprot {C : Cc} {L L' : Addr → Bool} {H H' : Hp} {ρ ρ' : Env} {σ : L2.St} (E : EnvOk R C L H ρ σ) {d : Addr} {vs : List V} (ld : L d = true) (hd : H d = some (.lst vs)) (E' : EnvOk R (hidC C d vs) L' H' ρ' σ) (S : Step (hidC C d vs) (subL L d) H L' H') :
    EnvOk R C (addL L' d) H' ρ' σ ∧ Step C L H (addL L' d) H' ∧ vis C (addL L' d) H' = vis (hidC C d vs) L' H' ∧ H' d = some (.lst vs) ∧ ∀ i xs, ρ'[i]? = some (.ow xs) → slAt σ i ≠ some (.ref d) := by
  have ev : vis C (addL L' d) H' = vis (hidC C d vs) L' H' := by
    funext x
    unfold vis hid addL hidC
    simp only [Bool.or_assoc, Bool.or_comm]
  have f := E.fr d ld
  have hd' : H' d = some (.lst vs) := E'.pr d _ (by show (if d = d then some (HO.lst vs) else C.P d) = _; rw [if_pos rfl])
  have od : ∀ x, C.O0 x = true → x ≠ d := fun x o z => by
    have := (E.o0 x o).1
    rw [z, f.1] at this
    cases this
  refine ⟨⟨E'.len, fun i s hs => ?_, E'.inj, E'.ioj, fun x l => ?_, E.o0, fun x o h => ?_, fun x h => E'.lv x (by show (C.M0 x || decide (x = d)) = true; rw [h, Bool.true_or])⟩, ⟨fun x h => ?_, fun x o h m l => ?_⟩, ev, hd', fun i xs h z => ?_⟩
  · have q := E'.sl i s hs
    cases s with
    | no => trivial
    | im dd => obtain ⟨x, e, r⟩ := q; exact ⟨x, e, by rw [ev]; exact r⟩
    | ow xs => obtain ⟨b, bs, e, l, hb, r⟩ := q; exact ⟨b, bs, e, addL_iff.mpr (.inl l), hb, by rw [ev]; exact r⟩
    | io xs => obtain ⟨e, o, bs, hb, r⟩ := q; exact ⟨e, o, bs, hb, by rw [ev]; exact r⟩
  · rcases addL_iff.mp l with z | z
    · have q := E'.fr x z
      have hn := hidC_M.mp q.1
      have h' : (if x = d then some (HO.lst vs) else C.P x) = none := q.2.1
      rw [if_neg hn.2] at h'
      exact ⟨hn.1, h', q.2.2⟩
    · rw [z]
      exact ⟨f.1, f.2.1, by rw [hd']; exact fun z => by cases z⟩
  · by_cases z : x = d
    · rw [z, f.2.1] at h
      cases h
    · refine E'.pr x o ?_
      show (if x = d then some (HO.lst vs) else C.P x) = some o
      rw [if_neg z]
      exact h
  · rcases addL_iff.mp h with z | z
    · rcases S.l x z with y | y
      · exact .inl (subL_iff.mp y).1
      · exact .inr y
    · rw [z]; exact .inl ld
  · have hn : x ≠ d := fun z => by rw [z, ld] at l; cases l
    refine S.k x o h (hidC_M.mpr ⟨m, hn⟩) ?_
    cases e : subL L d x with
    | false => rfl
    | true => rw [(subL_iff.mp e).1] at l; cases l
  · obtain ⟨b, bs, e, l, _⟩ := E'.sl i _ h
    rw [z] at e
    cases e
    exact (hidC_M.mp (E'.fr _ l).1).2 rfl
theorem ps_pr {i j : Nat} {x y : Str} {ma mb : M Rv} {px py pt pt2 : Pos} {kt k2 : Nat} (hc : X.calm = true) (hN : X.N.Nodup) (hi : X.N[i]? = some x) (hj : X.N[j]? = some y) (hij : i ≠ j)
    (hx : X.env.scope.names.lookup x = some .local) (hy : X.env.scope.names.lookup y = some .local) (ha : PE X a (tR R W ma)) (hb : PE X b (tR R W mb)) (sa : isStar a = false) (sb : isStar b = false)
    (hw : swappedStores [.Tuple [.Name x px, .Name y py] kt pt] (.Tuple [a, b] k2 pt2) X.env = pure (some [x, y])) :
    PS X (.Assign [.Tuple [.Name x px, .Name y py] kt pt] (.Tuple [a, b] k2 pt2) pos) (tS R W fun ρ => toFl (mbind ma (fun x => mbind mb fun y => mbind (st i x) fun _ => st j y) ρ) fun _ ρ' => .nx ρ') :=
  PS.imp (ps_par hc hN hi hj hij hx hy (pa_cons ha (pa_cons hb pa_nil (starEach_plain sb)) (starEach_plain sa)) hw) fun D σ H ⟨C, L, ρ, E, h⟩ => by
    refine ⟨C, L, ρ, E, (FlK.bind2 (σ := σ) h).mono fun r ρ1 L1 H1 E1 S1 k v rv => ?_⟩
    -- both stores, from a state that holds both
    have fin : ∀ {r2 : Rv} {ρ2 : Env} {La : Addr → Bool} {H2 : Hp} {w : V}, EnvOk R C La H2 ρ2 σ → RvOk R C La H2 ρ2 σ v r → RvOk R C La H2 ρ2 σ w r2 → (∀ ds es, r = .nw ds → r2 = .nw es → v ≠ w) → FlK R W (toFl (mbind (st i r) (fun _ => st j r2) ρ2) fun _ ρ' => .nx ρ') C La H2 D → D.nx ((σ.set i (some v)).set j (some w)) H2 := fun {r2 ρ2 La H2 w} E2 h1 h2 nvw k => by
      unfold mbind at k
      cases q : st i r ρ2 with
      | bad => rw [q] at k; exact k.elim
      | exc x ρ' =>
        exfalso
        unfold st at q
        split at q <;> cases q
      | ok u ρ3 =>
        obtain ⟨ρ'', e1, e2⟩ := run_st (i := i) (r := r) (ρ := ρ2) (by rw [q]; trivial)
        rw [q] at k e1
        cases e1
        subst e2
        have E3 := E2.store i v r h1
        have h2' : RvOk R C La H2 (ρ2.set i r.sl) (σ.set i (some v)) w r2 := by
          cases r2 with
          | im d => exact h2
          | nw ds =>
            obtain ⟨p, vs, e1, l, hp, rr, nn⟩ := h2
            refine ⟨p, vs, e1, l, hp, rr, fun i' xs hi' z => ?_⟩
            by_cases hz : i = i'
            · subst hz
              have hl : i < ρ2.length := by
                have := (List.getElem?_eq_some_iff.mp hi').1
                rwa [List.length_set] at this
              rw [List.getElem?_set_self hl] at hi'
              have s1 : slAt (σ.set i (some v)) i = some v := slAt_of (by rw [List.getElem?_set_self (by rw [← E2.len]; exact hl)])
              rw [s1] at z
              cases r with
              | im d => cases hi'
              | nw es => exact nvw es ds rfl rfl (by rw [e1]; exact Option.some.inj z)
            · rw [List.getElem?_set_ne hz] at hi'
              have s1 : slAt (σ.set i (some v)) i' = slAt σ i' := by
                unfold slAt
                rw [List.getElem?_set_ne hz]
              rw [s1] at z
              exact nn i' xs hi' z
        have k2 : FlK R W (toFl (st j r2 (ρ2.set i r.sl)) fun _ ρ' => .nx ρ') C La H2 D := k
        cases q2 : st j r2 (ρ2.set i r.sl) with
        | bad => rw [q2] at k2; exact k2.elim
        | exc x ρ' =>
          exfalso
          unfold st at q2
          split at q2 <;> cases q2
        | ok u ρ4 =>
          obtain ⟨ρ'', e1, e2⟩ := run_st (i := j) (r := r2) (ρ := ρ2.set i r.sl) (by rw [q2]; trivial)
          rw [q2] at k2 e1
          cases e1
          subst e2
          exact k2 _ La H2 (E3.store j w r2 h2') (.refl _ _ _)
    have k' := FlK.bind2 (σ := σ) k
    cases r with
    | im d =>
      refine ⟨C, L1, ρ1, E1, k'.mono fun r2 ρ2 La H2 E2 S2 k2 w rw' => ⟨v, w, rfl, ?_⟩⟩
      exact fin E2 (Rep.le S2.vis _ _ rv) rw' (fun _ _ z => by cases z) k2
    | nw ds =>
      obtain ⟨q, vs, e1, lq, hq, rr, nn⟩ := rv
      obtain ⟨Ep, ev⟩ := E1.prot lq hq nn
      refine ⟨hidC C q vs, subL L1 q, ρ1, Ep, ?_⟩
      unfold RunK at k' ⊢
      cases em : mb ρ1 with
      | bad => rw [em] at k'; exact k'.elim
      | exc x ρ' =>
        rw [em] at k'
        intro cls dd L' H' E' S' xo
        obtain ⟨Eu, Su, ev2, _, _⟩ := E1.unprot lq hq E' S'
        refine k' cls dd _ H' Eu Su ?_
        unfold XOk at xo ⊢
        rw [ev2]
        exact xo
      | ok r2 ρ2 =>
        rw [em] at k'
        intro L' H' E' S' w rw'
        obtain ⟨Eu, Su, ev2, hq', nn2⟩ := E1.unprot lq hq E' S'
        refine ⟨v, w, rfl, fin (r2 := r2) Eu ⟨q, vs, e1, addL_iff.mpr (.inr rfl), hq', ?_, nn2⟩ ?_ (fun _ es _ z => ?_) (k' _ H' Eu Su)⟩
        · rw [ev2]
          have := S'.vis
          rw [ev] at this
          exact Reps.le this _ _ rr
        · cases r2 with
          | im d =>
            have z : Rep R (vis (hidC C q vs) L' H') d w := rw'
            rw [← ev2] at z
            exact z
          | nw es =>
            obtain ⟨p2, ws, e2, l2, hp2, rr2, nn3⟩ := rw'
            rw [← ev2] at rr2
            exact ⟨p2, ws, e2, addL_iff.mpr (.inl l2), hp2, rr2, nn3⟩
        · subst z
          obtain ⟨p2, ws, e2, l2, _⟩ := rw'
          rw [e1, e2]
          intro z
          cases z
          exact (hidC_M.mp (E'.fr _ l2).1).2 rfl
/-- o.pop(), o a list of one's own -/
theorem pe_pp {i : Nat} {x : Str} {p2 : Pos} (hN : X.N[i]? = some x) (hv : Vis X.env.scope x) (hd : (x == ("__debug__" : Str)) = false) (hcd : (x == ("__classdict__" : Str)) = false) (hl : (p2.endLine == pos.line) = true) :
    PE X (.Call (.Attribute (.Name x p) "pop" p2) [] [] pos) (tR R W (mbind (own i) fun xs => match xs.getLast? with
    | some x => mbind (wr i xs.dropLast) fun _ => mret (.im x)
    | none => mbad)) :=
  PE.imp (pe_bm0 PySem.F.plainAttrs_list PySem.F.slot_list_pop PySem.F.type_list_pop mt_pop (pe_var hN hv hd hcd) (hline := hl)) fun σ H Q ⟨C, L, ρ, E, h⟩ => by
    obtain ⟨q, vs, xs, hi, hp, rr, _, _, k⟩ := run_own E h.bind
    have k := k L H E (.refl _ _ _)
    refine ⟨.ref q, hi, .inl ⟨rfl, vs, .inl (.inl hp)⟩, ?_⟩
    cases q1 : xs.getLast? with
    | none => rw [q1] at k; exact k.nobad.elim
    | some d =>
      rw [q1] at k
      have q2 : xs[xs.length - 1]? = some d := by rw [← List.getLast?_eq_getElem?]; exact q1
      obtain ⟨v, hv1, hv2⟩ := rr.get q2
      obtain ⟨ρ', e2, E', S', kk⟩ := run_wr E k.bind hi hp rr.dropLast
      exact ⟨q, vs, v, rfl, rfl, hp, by rw [rr.length]; exact hv1, kk.ret L _ E' (.refl _ _ _) (.refl _ _ _) S' v (Rep.le S'.vis _ _ hv2)⟩
end
end Pu
/-! Pu, part 16: which text an IR stands for. -/
namespace Pu
open PySem PySem.Spec PyProof.Rows L2

/-! ### views -/
def vName : Expr → Option Str
  | .Name x _ => some x
  | _ => none
theorem vName_of {x : Expr} {n : Str} (h : vName x = some n) : ∃ p, x = .Name n p := by
  unfold vName at h; split at h
  · cases h; exact ⟨_, rfl⟩
  · cases h
def vConst : Expr → Option Const
  | .Constant k _ _ => some k
  | _ => none
theorem vConst_of {x : Expr} {k : Const} (h : vConst x = some k) : ∃ j p, x = .Constant k j p := by
  unfold vConst at h; split at h
  · cases h; exact ⟨_, _, rfl⟩
  · cases h
def vBin : Expr → Option (Expr × Operator × Expr)
  | .BinOp a o b _ => some (a, o, b)
  | _ => none
theorem vBin_of {x : Expr} {y} (h : vBin x = some y) : ∃ p, x = .BinOp y.1 y.2.1 y.2.2 p := by
  unfold vBin at h; split at h
  · cases h; exact ⟨_, rfl⟩
  · cases h
def vUn : Expr → Option (UnaryOp × Expr)
  | .UnaryOp o e _ => some (o, e)
  | _ => none
theorem vUn_of {x : Expr} {y} (h : vUn x = some y) : ∃ p, x = .UnaryOp y.1 y.2 p := by
  unfold vUn at h; split at h
  · cases h; exact ⟨_, rfl⟩
  · cases h
def vCmp1 : Expr → Option (Expr × CmpOp × Expr)
  | .Compare a [o] [b] _ => some (a, o, b)
  | _ => none
theorem vCmp1_of {x : Expr} {y} (h : vCmp1 x = some y) : ∃ p, x = .Compare y.1 [y.2.1] [y.2.2] p := by
  unfold vCmp1 at h; split at h
  · cases h; exact ⟨_, rfl⟩
  · cases h
def vCmp2 : Expr → Option (Expr × CmpOp × CmpOp × Expr × Expr)
  | .Compare a [o, o'] [b, c] _ => some (a, o, o', b, c)
  | _ => none
theorem vCmp2_of {x : Expr} {y} (h : vCmp2 x = some y) : ∃ p, x = .Compare y.1 [y.2.1, y.2.2.1] [y.2.2.2.1, y.2.2.2.2] p := by
  unfold vCmp2 at h; split at h
  · cases h; exact ⟨_, rfl⟩
  · cases h
def vBool : Expr → Option (BoolOp × List Expr)
  | .BoolOp o es _ => some (o, es)
  | _ => none
theorem vBool_of {x : Expr} {y} (h : vBool x = some y) : ∃ p, x = .BoolOp y.1 y.2 p := by
  unfold vBool at h; split at h
  · cases h; exact ⟨_, rfl⟩
  · cases h
def vIf : Expr → Option (Expr × Expr × Expr)
  | .IfExp c a b _ => some (c, a, b)
  | _ => none
theorem vIf_of {x : Expr} {y} (h : vIf x = some y) : ∃ p, x = .IfExp y.1 y.2.1 y.2.2 p := by
  unfold vIf at h; split at h
  · cases h; exact ⟨_, rfl⟩
  · cases h
def vTup : Expr → Option (List Expr)
  | .Tuple es _ _ => some es
  | _ => none
theorem vTup_of {x : Expr} {y} (h : vTup x = some y) : ∃ k p, x = .Tuple y k p := by
  unfold vTup at h; split at h
  · cases h; exact ⟨_, _, rfl⟩
  · cases h
def vLst : Expr → Option (List Expr)
  | .List es _ => some es
  | _ => none
theorem vLst_of {x : Expr} {y} (h : vLst x = some y) : ∃ p, x = .List y p := by
  unfold vLst at h; split at h
  · cases h; exact ⟨_, rfl⟩
  · cases h
def vSub : Expr → Option (Expr × Expr)
  | .Subscript a b _ => some (a, b)
  | _ => none
theorem vSub_of {x : Expr} {y} (h : vSub x = some y) : ∃ p, x = .Subscript y.1 y.2 p := by
  unfold vSub at h; split at h
  · cases h; exact ⟨_, rfl⟩
  · cases h
def vSlc : Expr → Option (Option Expr × Option Expr)
  | .Slice lo hi none _ => some (lo, hi)
  | _ => none
theorem vSlc_of {x : Expr} {y} (h : vSlc x = some y) : ∃ p, x = .Slice y.1 y.2 none p := by
  unfold vSlc at h; split at h
  · cases h; exact ⟨_, rfl⟩
  · cases h
def isSlc : Expr → Bool
  | .Slice _ _ _ _ => true
  | _ => false
def vCall : Expr → Option (Str × List Expr)
  | .Call (.Name x _) es [] _ => some (x, es)
  | _ => none
theorem vCall_of {x : Expr} {y} (h : vCall x = some y) : ∃ p q, x = .Call (.Name y.1 p) y.2 [] q := by
  unfold vCall at h; split at h
  · cases h; exact ⟨_, _, rfl⟩
  · cases h
/-- x[::-1] -/
def vRev : Expr → Option Expr
  | .Subscript e (.Slice none none (some (.UnaryOp .USub (.Constant (.int 1) _ _) _)) _) _ => some e
  | _ => none
theorem vRev_of {x y : Expr} (h : vRev x = some y) : ∃ k p1 p2 p3 pos, x = .Subscript y (.Slice none none (some (.UnaryOp .USub (.Constant (.int 1) k p1) p2)) p3) pos := by
  unfold vRev at h; split at h
  · cases h; exact ⟨_, _, _, _, _, rfl⟩
  · cases h
def vCallK : Expr → Option (Str × List Keyword)
  | .Call (.Name x _) [] kws _ => some (x, kws)
  | _ => none
theorem vCallK_of {x : Expr} {y} (h : vCallK x = some y) : ∃ p q, x = .Call (.Name y.1 p) [] y.2 q := by
  unfold vCallK at h; split at h
  · cases h; exact ⟨_, _, rfl⟩
  · cases h
/-- the keywords' names are these -/
def kwOk : List Keyword → List Str → Bool
  | [], [] => true
  | ⟨some n, _, _⟩ :: r, m :: s => n == m && kwOk r s
  | _, _ => false
def kwVals : List Keyword → List Expr
  | [] => []
  | ⟨_, e, _⟩ :: r => e :: kwVals r
theorem kwOk_len : ∀ {kws : List Keyword} {ns : List Str}, kwOk kws ns = true → kws.length = ns.length
  | [], [], _ => rfl
  | ⟨some n, _, _⟩ :: r, m :: s, h => by
    rw [kwOk, Bool.and_eq_true] at h
    rw [List.length_cons, List.length_cons, kwOk_len h.2]
  | [], _ :: _, h => by cases h
  | ⟨none, _, _⟩ :: _, _, h => by cases h
  | ⟨some _, _, _⟩ :: _, [], h => by cases h
theorem kwOk_all {pos : Pos} {env : PySem.Env} : ∀ {kws : List Keyword} {ns : List Str}, kwOk kws ns = true → (backToKw pos (keywordEach kws env)).all (·.1.isSome) = true ∧ (backToKw pos (keywordEach kws env)).filterMap (·.1) = ns ∧ (backToKw pos (keywordEach kws env)).any (·.1.isNone) = false
  | [], [], _ => ⟨rfl, rfl, rfl⟩
  | ⟨some n, e, _⟩ :: r, m :: s, h => by
    rw [kwOk, Bool.and_eq_true] at h
    obtain ⟨h1, h2, h3⟩ := kwOk_all (pos := pos) (env := env) h.2
    have e : n = m := eq_of_beq h.1
    subst e
    refine ⟨?_, ?_, ?_⟩
    · show (true && (backToKw pos (keywordEach r env)).all (·.1.isSome)) = true
      rw [h1]; rfl
    · show n :: (backToKw pos (keywordEach r env)).filterMap (·.1) = n :: s
      rw [h2]
    · show (false || (backToKw pos (keywordEach r env)).any (·.1.isNone)) = false
      rw [h3]; rfl
  | [], _ :: _, h => by cases h
  | ⟨none, _, _⟩ :: _, _, h => by cases h
  | ⟨some _, _, _⟩ :: _, [], h => by cases h
def vMin : Expr → Option (Str × Expr × Str × Expr)
  | .Call (.Name x _) [a] [⟨some k, b, _⟩] _ => some (x, a, k, b)
  | _ => none
theorem vMin_of {x : Expr} {y} (h : vMin x = some y) : ∃ p q r, x = .Call (.Name y.1 p) [y.2.1] [⟨some y.2.2.1, y.2.2.2, r⟩] q := by
  unfold vMin at h; split at h
  · cases h; exact ⟨_, _, _, rfl⟩
  · cases h
/-- o.f(es): whether the line is right -/
def vMeth : Expr → Option (Str × Str × List Expr × Bool)
  | .Call (.Attribute (.Name x _) f p2) es [] p3 => some (x, f, es, p2.endLine == p3.line)
  | _ => none
theorem vMeth_of {x : Expr} {y} (h : vMeth x = some y) : ∃ p p2 p3, x = .Call (.Attribute (.Name y.1 p) y.2.1 p2) y.2.2.1 [] p3 ∧ y.2.2.2 = (p2.endLine == p3.line) := by
  unfold vMeth at h; split at h
  · cases h; exact ⟨_, _, _, rfl, rfl⟩
  · cases h
def vComp : Expr → Option (Expr × Expr × Expr × List Expr × Scope)
  | .ListComp elt [⟨tg, iter, ifs, 0⟩] scope _ => some (elt, tg, iter, ifs, scope)
  | _ => none
theorem vComp_of {x : Expr} {y} (h : vComp x = some y) : ∃ p, x = .ListComp y.1 [⟨y.2.1, y.2.2.1, y.2.2.2.1, 0⟩] y.2.2.2.2 p := by
  unfold vComp at h; split at h
  · cases h; exact ⟨_, rfl⟩
  · cases h
/-! ### side facts -/
theorem plainIx_of {b : Expr} (h : isSlc b = false) : PlainIx b := by
  intro o i
  unfold subscripted
  split
  · cases h
  · contradiction
  · rfl
theorem augStore_of {b : Expr} (h : isSlc b = false) : ∀ ov iv new, augStore b ov iv new = (do holding [new, ov, iv] (setItem ov iv new); release [new, ov, iv] []; pure .next) := by
  intro ov iv new
  unfold augStore
  split
  · cases h
  · rfl
theorem assign_sub_of {o b : Expr} {pos : Pos} {env : PySem.Env} (h : isSlc b = false) : ∀ v, assign (.Subscript o b pos) env v = (do
      let ov ← holding [v] (eval o env)
      let iv ← holding [v, ov] (eval b env)
      standAt pos
      holding [v, ov, iv] (setItem ov iv v)
      release [v, ov, iv] []) := by
  intro v
  cases b <;> first | rfl | cases h
def plainT : Expr → Bool
  | .Name .. => true
  | .Call .. => true
  | .Subscript .. => true
  | .BinOp .. => true
  | .Attribute .. => true
  | .Constant .. => true
  | _ => false
theorem plainT_of {e : Expr} {env : PySem.Env} (h : plainT e = true) : ∀ whole, isTrue e env whole = (do let v ← whole; standAt e.pos; holding [v] (truthy v)) := by
  intro w
  cases e <;> first | rfl | cases h
def isSet : Expr → Bool
  | .Set .. => true
  | _ => false
theorem folded_of {e : Expr} {env : PySem.Env} (h : isSet e = false) : ∀ x, foldedSetIterable e env x = pure x := by
  intro x
  cases e <;> first | rfl | cases h
theorem behind_of {o : CmpOp} {e : Expr} (h : isSet e = false) : behindInMarks o e = false := by
  cases e <;> first | rfl | cases h
theorem last_of {o o' : CmpOp} {b e : Expr} (h : isSet e = false) : lastMarks [o, o'] [b, e] = false := behind_of h
def isCmp : Expr → Bool
  | .ListComp .. => true
  | .SetComp .. => true
  | .DictComp .. => true
  | _ => false
theorem swaps_of {e : Expr} {t : Option Expr} {l : Nat} {env : PySem.Env} (h : isCmp e = false) : swapsWith e t l env = pure false := by
  cases e <;> first | rfl | cases h
/-! ### the static context -/
structure SC where
  N : List Str
  sc : Scope
  fa : Bool
  gf : List Str
  gc : List Str
  gb : Bool
  kp : List (Nat × List Str × List Nat)
def SC.ok (S : SC) (x : Str) : Bool := !(x == ("__debug__" : Str)) && !(x == ("__classdict__" : Str))
def visB : Option NameKind → Bool
  | some .local => true
  | some .cell => true
  | some .free => true
  | _ => false
def locB (fa : Bool) : Option NameKind → Bool
  | some .local => true
  | some .cell => fa
  | _ => false
def glbB : Option NameKind → Bool
  | some .globalImplicit => true
  | _ => false
def lcB : Option NameKind → Bool
  | some .local => true
  | _ => false
def atN : List Str → Nat → Str → Bool
  | x :: _, 0, y => x == y
  | _ :: r, i + 1, y => atN r i y
  | [], _, _ => false
theorem atN_of : ∀ {N : List Str} {i : Nat} {x : Str}, atN N i x = true → N[i]? = some x
  | y :: _, 0, x, h => by
    have e : y = x := eq_of_beq h
    rw [e]; rfl
  | _ :: r, i + 1, x, h => by
    rw [List.getElem?_cons_succ]
    exact atN_of (N := r) h
  | [], _, _, h => by cases h
def SC.vr (S : SC) (i : Nat) (x : Str) : Bool := atN S.N i x && visB (S.sc.names.lookup x) && S.ok x
def SC.lo (S : SC) (i : Nat) (x : Str) : Bool := atN S.N i x && locB S.fa (S.sc.names.lookup x)
def SC.gl (S : SC) (x : Str) : Bool := glbB (S.sc.names.lookup x)
def SC.blk (S : SC) (scope : Scope) : SC := { S with sc := relS scope S.sc, fa := false }
def SC.own0 (S : SC) (own : List Nat) : List (Str × Nat) := own.map fun i => ((S.N[i]?).getD ("" : Str), i)
def SC.blkOk (S : SC) (scope : Scope) (own : List Nat) : Bool :=
  decide (scope.kind = .function) && (scope.names.all fun y => decide (scope.names.lookup y.1 = some y.2)) && (own.all fun i => (S.N[i]?).isSome)
    && (scope.names.all fun y => !(decide (y.2 = .free)) || (match S.sc.names.lookup y.1 with | some .cell => true | some .free => true | _ => false))
    && (scope.names.all fun y => !(decide (y.2 = .local) || decide (y.2 = .cell)) || ((S.own0 own).map (·.1)).contains y.1 || !(S.N.contains y.1))
theorem SC.blkOk_of {S : SC} {scope : Scope} {own : List Nat} (h : S.blkOk scope own = true) : BlkOk S.N S.sc scope (S.own0 own) := by
  unfold SC.blkOk at h
  simp only [Bool.and_eq_true, List.all_eq_true, decide_eq_true_eq, Bool.or_eq_true, Bool.not_eq_true', decide_eq_false_iff_not] at h
  obtain ⟨⟨⟨⟨h1, h2⟩, h3⟩, h4⟩, h5⟩ := h
  refine ⟨h1, fun y hy => h2 y hy, fun p hp => ?_, fun y hy e => ?_, fun y hy e => ?_⟩
  · obtain ⟨i, hi, rfl⟩ := List.mem_map.mp hp
    have := h3 i hi
    cases q : S.N[i]? with
    | none => rw [q] at this; cases this
    | some x => rfl
  · rcases h4 y hy with z | z
    · exact absurd e z
    · split at z
      · exact .inl (by assumption)
      · exact .inr (by assumption)
      · cases z
  · rcases h5 y hy with (z | z) | z
    · simp only [Bool.or_eq_false_iff, decide_eq_false_iff_not] at z
      exact (e.elim z.1 z.2).elim
    · exact .inl (by simpa using z)
    · exact .inr (by simpa using z)
theorem SC.own0_map {S : SC} {own : List Nat} : (S.own0 own).map (·.2) = own := by
  unfold SC.own0
  rw [List.map_map]
  exact List.map_id own
theorem lkup_of {o : Option NameKind} (h : glbB o = true) : o = some .globalImplicit := by
  unfold glbB at h; split at h
  · rfl
  · cases h
theorem lc_of' {o : Option NameKind} (h : lcB o = true) : o = some .local := by
  unfold lcB at h; split at h
  · rfl
  · cases h
/-! ### the context of a text -/
def bltN : List Str := ["len", "abs", "int", "divmod", "max", "min", "sum", "all", "any", "sorted", "tuple", "list", "repr", "bool", "str", "isinstance", "range", "zip", "enumerate", "set"]
structure CxG (R : RC) (W : WX) (G : FT) (Vc : CT) (S : SC) (X : Cx) : Prop where
  K : X.K = R.K
  N : X.N = S.N
  nd : X.N.Nodup
  sc : X.env.scope = S.sc
  fa : S.fa = true → ∀ x, X.fn x = true
  calm : X.calm = true
  tk : Takes X W
  gu : X.A.guards = some []
  un : X.A.units + 64 < cLine
  fk : S.sc.kind = .function
  blt : ∀ x ∈ bltN, X.mg x = none
  gf : ∀ k x, S.gf[k]? = some x → ∃ f j fd ps φ, G k = some φ ∧ R.fa k = some f ∧ X.mg x = some (.ref f) ∧ FnG X.prog X.w X.K X.mg X.base j f fd ps (spF R ps.length φ) ∧ RoomG j X.A ∧ PySem.W.keepIn X.K (.ref f) = true ∧ Binds X.K fd ps [] ∧ (∀ args, args.length = ps.length ∨ φ args = .bad) ∧ ∀ ns pm, (k, ns, pm) ∈ S.kp → BindsK X.K fd ps ns pm
  gfn : ∀ k φ, G k = some φ → ∃ x, S.gf[k]? = some x
  gc : ∀ k x, S.gc[k]? = some x → ∃ d v u, Vc k = some d ∧ X.mg x = some u ∧ RelV v u ∧ ∀ H, Rep R H d v
  gcd : S.gb = true → X.mg "gcd" = some (.builtin "math.gcd")
section
variable {R : RC} {W : WX} {G : FT} {Vc : CT} {S : SC} {X : Cx}
theorem CxG.vr (h : CxG R W G Vc S X) {i : Nat} {x : Str} (e : S.vr i x = true) : X.N[i]? = some x ∧ Vis X.env.scope x ∧ (x == ("__debug__" : Str)) = false ∧ (x == ("__classdict__" : Str)) = false := by
  unfold SC.vr SC.ok at e
  simp only [Bool.and_eq_true, Bool.not_eq_true'] at e
  obtain ⟨⟨h1, h2⟩, h3, h4⟩ := e
  refine ⟨by rw [h.N]; exact atN_of h1, ?_, h3, h4⟩
  rw [h.sc]
  unfold visB at h2
  unfold Vis
  split at h2
  · rename_i q; exact .inl q
  · rename_i q; exact .inr (.inl q)
  · rename_i q; exact .inr (.inr q)
  · cases h2
theorem CxG.lo (h : CxG R W G Vc S X) {i : Nat} {x : Str} (e : S.lo i x = true) : X.N[i]? = some x ∧ L2.Loc X.env.scope x ∧ (X.fn x = true ∨ X.env.scope.names.lookup x = some .local) := by
  unfold SC.lo at e
  simp only [Bool.and_eq_true] at e
  obtain ⟨h1, h2⟩ := e
  refine ⟨by rw [h.N]; exact atN_of h1, ?_⟩
  rw [h.sc]
  unfold locB at h2
  unfold L2.Loc
  split at h2
  · rename_i q; exact ⟨.inl q, .inr q⟩
  · rename_i q; exact ⟨.inr q, .inl (h.fa h2 _)⟩
  · cases h2
theorem CxG.gl (h : CxG R W G Vc S X) {x : Str} (e : S.gl x = true) : Gl X x := by
  unfold Gl Env.kindOf
  rw [h.sc]
  exact lkup_of e
theorem CxG.blk (h : CxG R W G Vc S X) {scope : Scope} {own : List Nat} (e : S.blkOk scope own = true) (s : Shared) (H : Hp) (C : Addr) (cl : List (Str × Addr)) (fp : List Addr) : CxG R W0 G Vc (S.blk scope) (X.blk s H scope (compEnvC scope cl C X.env) fp) := by
  have ok := SC.blkOk_of e
  refine ⟨h.K, h.N, h.nd, ?_, fun z => (by cases z), h.calm, takes0, h.gu, h.un, ?_, h.blt, h.gf, h.gfn, h.gc, h.gcd⟩
  · show relS scope X.env.scope = relS scope S.sc
    rw [h.sc]
  · show scope.kind = .function
    exact ok.kind
theorem CxG.blkOk (h : CxG R W G Vc S X) {scope : Scope} {own : List Nat} (e : S.blkOk scope own = true) : BlkOk X.N X.env.scope scope (S.own0 own) := by
  rw [h.N, h.sc]
  exact SC.blkOk_of e
theorem nodbg {x : Str} (h : x ∈ bltN) : (x == ("__debug__" : Str)) = false := by
  revert x
  decide
end
end Pu
/-! Pu, part 17: the check of a text against an IR. -/
namespace Pu
open PySem PySem.Spec PyProof.Rows L2

def Cn.is : Cn → Const → Bool
  | .non, .none => true
  | .bl b, .bool c => b == c
  | .int i, .int j => i == j
  | .str x, .str y => x == y
  | _, _ => false
def opB (a b : BoolOp) : Bool := match a, b with
  | .And, .And => true
  | .Or, .Or => true
  | _, _ => false
def E.isComp : E → Bool
  | .comp .. => true
  | _ => false
mutual
def Tg.ns : Tg → List Nat
  | .nm i => [i]
  | .sub _ _ => []
  | .tup gs => gs.ns
def Tgs.ns : Tgs → List Nat
  | .nil => []
  | .cons g gs => g.ns ++ gs.ns
end
mutual
def E.chk (S : SC) : E → Expr → Bool
  | .c c, x => match vConst x with
    | some k => c.is k
    | none => false
  | .g k, x => match vName x with
    | some n => atN S.gc k n && S.gl n && S.ok n
    | none => false
  | .f k, x => match vName x with
    | some n => atN S.gf k n && S.gl n && S.ok n
    | none => false
  | .v i, x => match vName x with
    | some n => S.vr i n
    | none => false
  | .mv i, x => match vName x with
    | some n => S.vr i n
    | none => false
  | .b2 o a b, x => match vBin x with
    | some y => decide (y.2.1 = o.op) && a.chk S y.1 && b.chk S y.2.2
    | none => false
  | .c2 o a b, x => match vCmp1 x with
    | some y => decide (y.2.1 = o.op) && a.chk S y.1 && b.chk S y.2.2 && !isSet y.2.2
    | none => false
  | .c3 o o' a b c, x => match vCmp2 x with
    | some y => decide (y.2.1 = o.op) && decide (y.2.2.1 = o'.op) && a.chk S y.1 && b.chk S y.2.2.2.1 && c.chk S y.2.2.2.2 && !isSet y.2.2.2.2
    | none => false
  | .neg a, x => match vUn x with
    | some y => decide (y.1 = .USub) && a.chk S y.2
    | none => false
  | .not a, x => match vUn x with
    | some y => decide (y.1 = .Not) && a.chk S y.2
    | none => false
  | .and es, x => match vBool x with
    | some y => opB y.1 .And && es.chk S y.2 && !y.2.isEmpty
    | none => false
  | .or es, x => match vBool x with
    | some y => opB y.1 .Or && es.chk S y.2 && !y.2.isEmpty
    | none => false
  | .ite t a b, x => match vIf x with
    | some y => t.chk S y.1 && a.chk S y.2.1 && b.chk S y.2.2
    | none => false
  | .tup es, x => match vTup x with
    | some y => es.chk S y
    | none => false
  | .lst es, x => match vLst x with
    | some y => es.chk S y
    | none => false
  | .sub a b, x => match vSub x with
    | some y => a.chk S y.1 && b.chk S y.2 && !isSlc y.2
    | none => false
  | .osub i b, x => match vSub x with
    | some y => (match vName y.1 with | some n => S.vr i n | none => false) && b.chk S y.2 && !isSlc y.2
    | none => false
  | .slc a lo hi, x => match vSub x with
    | some y => a.chk S y.1 && (match vSlc y.2 with | some z => lo.chk S z.1 && hi.chk S z.2 | none => false)
    | none => false
  | .bf f es, x => match vCall x with
    | some y => (y.1 == f.name) && S.gl y.1 && es.chk S y.2 && !y.2.isEmpty
    | none => false
  | .isa a T, x => match vCall x with
    | some (n, [u, w]) => (n == ("isinstance" : Str)) && S.gl n && a.chk S u && !isStar u && isTys.contains T && (match vName w with | some m => (m == Str.ofString T) && S.gl m | none => false)
    | _ => false
  | .mind a d, x => match vMin x with
    | some y => (y.1 == ("min" : Str)) && (y.2.2.1 == ("default" : Str)) && S.gl y.1 && a.chk S y.2.1 && d.chk S y.2.2.2 && !isStar y.2.1
    | none => false
  | .call k as, x => match vCall x with
    | some y => atN S.gf k y.1 && S.gl y.1 && S.ok y.1 && as.chk S y.2 && !y.2.isEmpty
    | none => false
  | .callv i es, x => match vCall x with
    | some y => S.vr i y.1 && es.chk S y.2 && !y.2.isEmpty
    | none => false
  | .comp it g ts e own, x => match vComp x with
    | some y => S.blkOk y.2.2.2.2 own && it.chk S y.2.1 y.2.2.1 && g.chk (S.blk y.2.2.2.2) y.2.1 && ts.chk (S.blk y.2.2.2.2) y.2.2.2.1 && (match y.2.2.2.1 with | [] => true | [_] => true | _ => false) && e.chk (S.blk y.2.2.2.2) y.1 && (g.ns.all fun j => own.contains j) && !isSet y.2.2.1
    | none => false
  | .pop i, x => match vMeth x with
    | some y => S.vr i y.1 && (y.2.1 == ("pop" : Str)) && y.2.2.1.isEmpty && y.2.2.2
    | none => false
  | .olen i, x => match vCall x with
    | some (n, [u]) => (n == ("len" : Str)) && S.gl n && (match vName u with | some m => S.vr i m | none => false)
    | _ => false
  | .gcd es, x => match vCall x with
    | some y => (y.1 == ("gcd" : Str)) && S.gb && S.gl y.1 && es.chk S y.2 && !y.2.isEmpty
    | none => false
  | .callk k ns pm es, x => match vCallK x with
    | some y => atN S.gf k y.1 && S.gl y.1 && S.ok y.1 && kwOk y.2 ns && es.chk S (kwVals y.2) && S.kp.contains (k, ns, pm)
    | none => false
  | .sset e, x => match vCall x with
    | some (n, [u]) => (n == ("sorted" : Str)) && S.gl n && (match vCall u with
      | some (m, [w]) => (m == ("set" : Str)) && S.gl m && e.chk S w && !isStar w
      | _ => false)
    | _ => false
  | .rev e, x => match vRev x with
    | some y => e.chk S y
    | none => false
  | .bad, _ => true
def Es.chk (S : SC) : Es → List Expr → Bool
  | .nil, xs => xs.isEmpty
  | .cons e es, xs => match xs with
    | x :: r => e.chk S x && es.chk S r && !isStar x
    | [] => false
def As.chk (S : SC) : As → List Expr → Bool
  | .nil, xs => xs.isEmpty
  | .e e es, xs => match xs with
    | x :: r => e.chk S x && es.chk S r && !isStar x
    | [] => false
  | .io i es, xs => match xs with
    | x :: r => (match vName x with | some n => S.vr i n | none => false) && es.chk S r
    | [] => false
def Oe.chk (S : SC) : Oe → Option Expr → Bool
  | .none, x => x.isNone
  | .some e, x => match x with
    | some y => e.chk S y
    | none => false
def T.chk (S : SC) : T → Expr → Bool
  | .e e, x => plainT x && e.chk S x
  | .c2 o a b, x => match vCmp1 x with
    | some y => decide (y.2.1 = o.op) && a.chk S y.1 && b.chk S y.2.2 && !isSet y.2.2
    | none => false
  | .c3 o o' a b c, x => match vCmp2 x with
    | some y => decide (y.2.1 = o.op) && decide (y.2.2.1 = o'.op) && a.chk S y.1 && b.chk S y.2.2.2.1 && c.chk S y.2.2.2.2 && !isSet y.2.2.2.2
    | none => false
  | .not t, x => match vUn x with
    | some y => decide (y.1 = .Not) && t.chk S y.2
    | none => false
  | .and ts, x => match vBool x with
    | some y => opB y.1 .And && ts.chk S y.2 && !y.2.isEmpty
    | none => false
  | .or ts, x => match vBool x with
    | some y => opB y.1 .Or && ts.chk S y.2 && !y.2.isEmpty
    | none => false
  | .onil neg i, x => match vCmp1 x with
    | some y => decide (y.2.1 = (if neg = true then .NotEq else .Eq)) && (match vName y.1 with | some n => S.vr i n | none => false) && (match vLst y.2.2 with | some [] => true | _ => false)
    | none => false
def Ts.chk (S : SC) : Ts → List Expr → Bool
  | .nil, xs => xs.isEmpty
  | .cons e es, xs => match xs with
    | x :: r => e.chk S x && es.chk S r
    | [] => false
def It.chk (S : SC) : It → Expr → Expr → Bool
  | .seq e, _, x => e.chk S x
  | .r1 a, _, x => match vCall x with
    | some (n, [u]) => (n == ("range" : Str)) && S.gl n && a.chk S u && !isStar u
    | _ => false
  | .r2 a b, _, x => match vCall x with
    | some (n, [u, w]) => (n == ("range" : Str)) && S.gl n && a.chk S u && !isStar u && b.chk S w && !isStar w
    | _ => false
  | .r3 a b c, _, x => match vCall x with
    | some (n, [u, w, z]) => (n == ("range" : Str)) && S.gl n && a.chk S u && !isStar u && b.chk S w && !isStar w && c.chk S z && !isStar z
    | _ => false
  | .enum e, g, x => match vCall x with
    | some (n, [u]) => (n == ("enumerate" : Str)) && S.gl n && e.chk S u && !isStar u && (vTup g).isSome
    | _ => false
  | .zip a b, g, x => match vCall x with
    | some (n, [u, w]) => (n == ("zip" : Str)) && S.gl n && a.chk S u && !isStar u && b.chk S w && !isStar w && (vTup g).isSome
    | _ => false
def Tg.chk (S : SC) : Tg → Expr → Bool
  | .nm i, x => match vName x with
    | some n => S.lo i n
    | none => false
  | .sub i e, x => match vSub x with
    | some y => (match vName y.1 with | some n => S.vr i n | none => false) && e.chk S y.2 && !isSlc y.2
    | none => false
  | .tup gs, x => match vTup x with
    | some y => gs.chk S y
    | none => false
def Tgs.chk (S : SC) : Tgs → List Expr → Bool
  | .nil, xs => xs.isEmpty
  | .cons g gs, xs => match xs with
    | x :: r => g.chk S x && gs.chk S r && !isStar x
    | [] => false
end
def isTupE : Expr → Bool
  | .Tuple .. => true
  | .List .. => true
  | _ => false
/-- a target that is no plain local name -/
def noLc (sc : Scope) : Expr → Bool
  | .Name x _ => !lcB (sc.names.lookup x)
  | _ => true
def noSwap (sc : Scope) : Expr → Bool
  | .Tuple ts _ _ => ts.any (noLc sc)
  | _ => false
def vPar : Stmt → Option (Str × Str × Expr × Expr × Bool)
  | .Assign [.Tuple [.Name x px, .Name y py] _ _] (.Tuple [a, b] _ _) _ => some (x, y, a, b, py.line == px.line)
  | _ => none
def vPar3 : Stmt → Option (Str × Str × Str × Expr × Expr × Expr × Bool)
  | .Assign [.Tuple [.Name x px, .Name y py, .Name z pz] _ _] (.Tuple [a, b, c] _ _) _ => some (x, y, z, a, b, c, py.line == px.line && pz.line == px.line)
  | _ => none
def vAsg : Stmt → Option (Expr × Expr × Nat)
  | .Assign [t] e p => some (t, e, p.line)
  | _ => none
def vAug : Stmt → Option (Expr × Operator × Expr)
  | .AugAssign t o e _ => some (t, o, e)
  | _ => none
def vEx : Stmt → Option Expr
  | .Expr e _ => some e
  | _ => none
def vRet : Stmt → Option (Option Expr)
  | .Return e _ => some e
  | _ => none
def vIfS : Stmt → Option (Expr × List Stmt × List Stmt)
  | .If c a b _ => some (c, a, b)
  | _ => none
def vFor : Stmt → Option (Expr × Expr × List Stmt)
  | .For tg it b [] _ => some (tg, it, b)
  | _ => none
def vWhile : Stmt → Option (Expr × List Stmt)
  | .While c b [] _ => some (c, b)
  | _ => none
def sPass : Stmt → Bool
  | .Pass _ => true
  | .Expr (.Constant (.str _) _ _) _ => true
  | _ => false
def sBreak : Stmt → Bool
  | .Break _ => true
  | _ => false
def sCont : Stmt → Bool
  | .Continue _ => true
  | _ => false
/-- the name, its line; the comprehension's line; its own names -/
def cpLine : Expr → Expr → Option (Str × Bool × Scope)
  | .Name y py, .ListComp _ _ sc pos => some (y, py.line == pos.line, sc)
  | _, _ => none
mutual
def S.chk (Z : SC) : S → Stmt → Bool
  | .asg g e, x => match vAsg x with
    | some (t, v, _) => g.chk Z t && e.chk Z v && !isStar t && (!(isTupE t && isTupE v) || noSwap Z.sc t) &&
      (!isCmp v || (match g, cpLine t v with
        | .nm i, some (y, l, sc) => (lcB (Z.sc.names.lookup y) && l && !(sc.names.any fun (n, k) => n == y && (k == .local || k == .cell)) && e.isComp)
          || (match Z.sc.names.lookup y with | some .cell => true | _ => false)
        | _, _ => false))
    | none => false
  | .par i j a b, x => match vPar x with
    | some (n, m, u, w, l) => atN Z.N i n && atN Z.N j m && lcB (Z.sc.names.lookup n) && lcB (Z.sc.names.lookup m) && !(i == j) && !(n == m) && l && a.chk Z u && b.chk Z w && !isStar u && !isStar w
      && !([u, w].all (foldedForSure 8)) && !([u, w].all (constantsAlone 8))
    | none => false
  | .par3 i j l es, x => match vPar3 x with
    | some (n, m, o, u, w, v, q) => atN Z.N i n && atN Z.N j m && atN Z.N l o && lcB (Z.sc.names.lookup n) && lcB (Z.sc.names.lookup m) && lcB (Z.sc.names.lookup o) && !(i == j) && !(i == l) && !(j == l)
      && !(n == m) && !(n == o) && !(m == o) && q && es.chk Z [u, w, v] && !([u, w, v].all (foldedForSure 8)) && !([u, w, v].all (constantsAlone 8))
    | none => false
  | .aug i o e, x => match vAug x with
    | some (t, o', v) => (match vName t with | some n => Z.lo i n | none => false) && decide (o' = o.op) && e.chk Z v
    | none => false
  | .oaug i j o e, x => match vAug x with
    | some (t, o', v) => (match vSub t with | some y => (match vName y.1 with | some n => Z.vr i n | none => false) && j.chk Z y.2 && !isSlc y.2 | none => false) && decide (o' = o.op) && e.chk Z v
    | none => false
  | .app i e, x => match vEx x with
    | some v => (match vMeth v with
      | some (n, f, [u], l) => Z.vr i n && (f == ("append" : Str)) && e.chk Z u && !isStar u && l
      | _ => false)
    | none => false
  | .ex e, x => match vEx x with
    | some v => e.chk Z v && !isCmp v
    | none => false
  | .ret e, x => match vRet x with
    | some (some v) => e.chk Z v
    | _ => false
  | .retn, x => match vRet x with
    | some none => true
    | _ => false
  | .ifs t a b, x => match vIfS x with
    | some (c, u, w) => t.chk Z c && a.chk Z u && b.chk Z w
    | none => false
  | .fors g it b, x => match vFor x with
    | some (tg, i, u) => g.chk Z tg && it.chk Z tg i && b.chk Z u && !isSet i
    | none => false
  | .whil t b, x => match vWhile x with
    | some (c, u) => t.chk Z c && b.chk Z u
    | none => false
  | .pass, x => sPass x
  | .brk, x => sBreak x
  | .cont, x => sCont x
  | .never, _ => true
def Ss.chk (Z : SC) : Ss → List Stmt → Bool
  | .nil, xs => xs.isEmpty
  | .cons s r, xs => match xs with
    | x :: y => s.chk Z x && r.chk Z y
    | [] => false
  | .wipe _ r, xs => r.chk Z xs
end
end Pu
/-! Pu, part 16e: enumerate(a tuple). -/
namespace Pu
open PySem PySem.Spec PyProof.Rows L2 RZ
open Sem (wp)
open AutoSeq1 (wpAny_loadPart')

theorem drawsT {prog : Program} {w : World} {A : Around} (hh : A.handled = none) (it l : Addr) (hne : l ≠ it) (ys : Array Value) :
    Draws prog w A it [it, l] ys.size (fun i v => ys[i]? = some v) (fun i h => h.IsTupleIter it l i ∧ h.IsTuple l ys) := by
  refine ⟨fun _ _ z => ?_, fun _ _ _ z k => ⟨z.1.at fun o e => k it (by simp) o e, ?_⟩, fun i s Q E hi z q => ?_, fun s Q E z hE => nextOf_tuple_end hh z.1 z.2 (by simp) hE⟩
  · obtain ⟨⟨o, ho, _⟩, _⟩ := z
    exact ⟨o, ho⟩
  · obtain ⟨_, o, ho, r⟩ := z
    exact ⟨o, k l (by simp) _ ho, r⟩
  · refine nextOf_tuple_item z.1 z.2 (x := ys[i]) (by simp [hi]) fun h' a b => ?_
    exact q _ h' s.toks (by simp [hi]) ⟨a, z.2.extBut b.extBut hne⟩ b

theorem meets_enumT (l : Addr) (ys : Array Value) (n : Nat) (dct : Option Addr) (sl : Array (Option Value)) :
    Meets (Builtin.«enumerate.__new__» ⟨[.type "enumerate", .ref l], []⟩) (fun _ R s => s.heap.get? l = some { cls := .type "tuple", dict := dct, data := .seq ys n, slots := sl } ∧
      R (.ok (.ret (.ref (s.heap.push { cls := .type "tuple_iterator", data := .fields #[.ref l, .int 0 0] }).objs.size)))
        { s with heap := (s.heap.push { cls := .type "tuple_iterator", data := .fields #[.ref l, .int 0 0] }).push { cls := .type "enumerate", data := .fields #[.none, .bool false, .ref s.heap.objs.size, rawInt 0, .none, .none] } }) :=
  .of_wp fun prog w A R s h => by
    obtain ⟨hp, g, d, tk, os⟩ := s; obtain ⟨hq, h⟩ := h
    have sb := sub_enumerate
    have hT : Heap.IsTuple (Shared.heap ⟨hp, g, d, tk, os⟩) l ys := ⟨_, hq, rfl, n, rfl⟩
    wp_walk using wpAny_loadPart' hq
    refine wpAny_stack_any fun k => wpAny_pure ?_
    split
    · rename_i c _ _ _ _ _
      cases (c == Value.type "enumerate")
      · wp_walk using wpAny_loadPart' hq, wpAny_pyIter_tuple hT
        exact ⟨_, rfl, h⟩
      · wp_walk using wpAny_loadPart' hq, wpAny_pyIter_tuple hT
        exact ⟨_, rfl, h⟩
    · wp_walk using wpAny_loadPart' hq, wpAny_pyIter_tuple hT
      exact ⟨_, rfl, h⟩

section
variable {prog : Program} {w : World} {A : Around} {E : Value → Shared → Prop} {s : Shared}
theorem call_enumT {l : Addr} {ys : Array Value} {Q : Value → Shared → Prop} (hT : s.heap.IsTuple l ys)
    (h : ∀ h', IsEnum h' (s.heap.objs.size + 1) s.heap.objs.size 0 .none → h'.IsTupleIter s.heap.objs.size l 0 →
      (∀ b o, s.heap.get? b = some o → h'.get? b = some o) → Q (.ref (s.heap.objs.size + 1)) { s with heap := h' }) :
    wpAny (model prog w) A (call (.type "enumerate") [.ref l]) Q E s := by
  obtain ⟨⟨c, dct, dt, sl⟩, hl, hc, n, hd⟩ := hT
  have hc : c = .type "tuple" := hc
  have hd : dt = .seq ys n := hd
  subst hc hd
  refine callType_new F.called_enumerate (by decide) (F.typeCall_enumerate_1 _) (F.newCall_enumerate_1 _) (fun z => F.args_object_init_2 z _) F.entry_enumerate_new (meets_enumT l ys n dct sl) ⟨hl, ?_⟩
  generalize hh : s.heap.push { cls := .type "tuple_iterator", data := .fields #[.ref l, .int 0 0] } = h1
  have hz : h1.objs.size = s.heap.objs.size + 1 := by rw [← hh]; exact Heap.size_push ..
  have hi : h1.get? s.heap.objs.size = some { cls := .type "tuple_iterator", data := .fields #[.ref l, .int 0 0] } := by rw [← hh]; exact Heap.get?_push_size _ rfl
  have kp : ∀ b o, s.heap.get? b = some o → h1.get? b = some o := fun b o x => by rw [← hh]; exact Heap.get?_push_of_some _ x
  have he : IsEnum (h1.push { cls := .type "enumerate", data := .fields #[.none, .bool false, .ref s.heap.objs.size, rawInt 0, .none, .none] }) (s.heap.objs.size + 1) s.heap.objs.size 0 .none := by
    have z := Heap.get?_push_size h1 (o := { cls := .type "enumerate", data := .fields #[.none, .bool false, .ref s.heap.objs.size, rawInt 0, .none, .none] }) rfl
    rw [hz] at z
    exact z
  rw [hz]
  exact ⟨⟨_, he, rfl⟩, h _ he ⟨_, Heap.get?_push_of_some _ hi, rfl, rfl⟩ fun b o x => Heap.get?_push_of_some _ (kp b o x)⟩
theorem enumT_end {e it l : Addr} {i : Nat} {ys : Array Value} {old : Value} {Q : Option Value → Shared → Prop} (hh : A.handled = none)
    (he : IsEnum s.heap e it i old) (hit : s.heap.IsTupleIter it l i) (hl : s.heap.IsTuple l ys) (hx : ys[i]? = none)
    (hQ : ∀ h', Heap.ExtBut it s.heap h' → Q none { s with heap := h' }) : wpAny (model prog w) A (pyNext (.ref e)) Q E s := by
  have ty : s.TypeIs (.ref e) "enumerate" := ⟨_, he, rfl⟩
  unfold pyNext
  refine wpAny_bind (wpAny_attempt (wpAny_callSpecial?_slot (name := Str.ofString "__next__") ty F.slot_enumerate_next (wpAny_call_entry F.slot_enumerate_next ty F.entry_enumerate_next ?_ (F.args_enumerate_next_1 _))))
  show wpAny _ _ (field (.ref e) 2 >>= _) _ _ _
  refine wpAny_bind (wpAny_field he rfl (x := .ref it) rfl (wpAny_bind (nextOf_tuple_end hh hit hl hx fun h' x a b => ?_)))
  obtain ⟨o, ho, hc⟩ := b
  exact wpAny_bind (wpAny_isInstance (T := "StopIteration") (b := true) ⟨o, ho, hc⟩ isSubtype_stop (wpAny_pure (hQ _ a)))
end

def Iteu (K : PySem.W.Frag) (a : Addr) : L2.It :=
  ⟨fun i H => ∃ (xs : List V) (x : V), SqT K H a xs ∧ xs[i]? = some x, fun i H v H' => ∃ T x, v = .ref T ∧ H T = none ∧ H' = upd H T (.tup [.int (i : Nat), x]) ∧ ∀ xs, SqT K H a xs → xs[i]? = some x, fun i H => ∃ xs : List V, SqT K H a xs ∧ xs.length ≤ i⟩
theorem turn_enumT {P : Program} {w : World} {K : PySem.W.Frag} {elts : List Expr} {kk : Nat} {tpos : Pos} (a e it : Addr) :
    Turn P w K (.Tuple elts kk tpos) (Iteu K a) [e, it] e (fun i h => (∃ old, IsEnum h e it ((i : Nat) : Int) old) ∧ h.IsTupleIter it a i ∧ e ≠ it) := by
  refine ⟨by simp, fun i h st b hb => ?_, fun i h h' st k => ?_, ?_, ?_, fun A i s Q E st h => ?_⟩
  · obtain ⟨⟨old, he⟩, ⟨o, ho, hc, hd⟩, _⟩ := st
    have z : b = e ∨ b = it := by simpa using hb
    rcases z with z | z
    · subst z; exact ⟨_, he, fun v q => nomatch q⟩
    · subst z; exact ⟨o, ho, fun v q => by rw [hd] at q; cases q⟩
  · obtain ⟨⟨old, he⟩, hi, hne⟩ := st
    exact ⟨⟨old, k e (by simp) _ he⟩, hi.at fun o q => k it (by simp) o q, hne⟩
  · intro X hP hw hK hc i pins s σ H E I hf st hg
    subst hP hw hK
    obtain ⟨⟨old, he⟩, hit, hne⟩ := st
    obtain ⟨xs, x, hq, hx⟩ := hg
    obtain ⟨its, rv, p, hz⟩ := I.tuple hq
    have p : s.heap.IsTuple a its.toArray := p
    obtain ⟨u, hu, ru⟩ := rv.get hx
    have hel : e < s.heap.objs.size := Heap.lt_size he
    have hil : it < s.heap.objs.size := by obtain ⟨_, q, _⟩ := hit; exact Heap.lt_size q
    have hai : a ≠ it := fun z => by
      obtain ⟨o, q, c, d⟩ := hit
      obtain ⟨o', q', c', _⟩ := p
      rw [z, q] at q'
      cases q'
      rw [c] at c'
      exact absurd (Value.type.inj c') (by decide)
    have hae : e ∉ [it, a] := fun z => by
      have z : e = it ∨ e = a := by simpa using z
      rcases z with z | z
      · exact hne z
      · obtain ⟨o', q', c', _⟩ := p
        have he := he
        rw [z] at he
        have q2 : s.heap.get? a = some _ := he
        rw [q2] at q'
        cases q'
        exact absurd (Value.type.inj c') (by decide)
    have hh : X.A.in1.handled = none := I.ok.hd hc
    have hlen : i < its.toArray.size := by
      have := (List.getElem?_eq_some_iff.mp hu).1
      simpa using this
    refine wpAny_pyNext_enum_itemD (drawsT hh it a hai its.toArray) he ⟨hit, p⟩ hlen hne hae fun y h' tk hy ho hit' hT hsz hk => ?_
    have ey : y = u := by
      have e1 : its[i]? = some y := by simpa using hy
      rw [hu] at e1
      exact (Option.some.inj e1).symm
    subst ey
    refine ⟨_, rfl, wpAny_letOwnedTupleGo_enum (s := { s with heap := h', toks := tk + 1 }) ho fun h'' he' sb => ?_⟩
    have hT2 : h''.get? s.heap.objs.size = some { cls := .type "tuple", data := .seq #[.int i tk, y] } := (sb.2 _ (Nat.ne_of_gt hel)).trans hT
    generalize hV : HO.tup [.int (i : Nat), x] = hv
    have new : ObjOk X.prog X.w (upd H s.heap.objs.size hv) h'' s.heap.objs.size hv := by
      rw [← hV]
      exact ⟨by show 2 ≤ sizeLine; decide, [.int i tk, y], .cons ⟨_, rfl⟩ (.cons ru .nil), ⟨_, hT2, rfl, _, rfl⟩⟩
    have I1 : Inv X pins σ (upd H s.heap.objs.size hv) { s with heap := h'', toks := tk + 1 } :=
      I.turnedNew (ch := [e, it]) (fun b ob hb q => (sb.2 b (fun z => hb (by rw [z]; exact List.mem_cons_self))).trans (hk b ob (fun z => hb (by rw [z]; exact List.mem_cons_self)) (fun z => hb (by rw [z]; simp)) q)) hf (Nat.le_refl _) new
    refine ⟨.ref s.heap.objs.size, _, I1, rfl, ⟨_, x, rfl, I.hok.fresh (Nat.le_refl _), by rw [hV], fun ys hy => by rw [I.tuple_inj hy hq]; exact hx⟩, ⟨⟨y, ?_⟩, hit'.1.at fun o q => (sb.2 it (Ne.symm hne)).trans q, hne⟩, fun b hb => ?_⟩
    · rw [show ((i + 1 : Nat) : Int) = (i : Int) + 1 by omega]
      exact he'
    · have z : b = e ∨ b = it := by simpa using hb
      have hb' : b < s.heap.objs.size := by
        rcases z with z | z
        · rw [z]; exact hel
        · rw [z]; exact hil
      exact (upd_ne (Nat.ne_of_lt hb')).trans (hf b hb).1
  · intro X hP hw hK hc i pins s σ H E I hf st hg
    subst hP hw hK
    obtain ⟨⟨old, he⟩, hit, hne⟩ := st
    obtain ⟨xs, hq, hx⟩ := hg
    obtain ⟨its, rv, p, hz⟩ := I.tuple hq
    have p : s.heap.IsTuple a its.toArray := p
    obtain ⟨f0, f1, f2, f3, f4, f5⟩ := hf it (by simp)
    have hl := rv.length
    exact enumT_end (I.ok.hd hc) he hit p (by simp; omega) fun h' eb => ⟨rfl, I.turned (t' := s.toks) (fun b o hb q => eb b o hb q) f0 f1 f3 f4 f5⟩
  · obtain ⟨⟨_, he⟩, _⟩ := st
    exact wpAny_pyIter_enum he h
def iEnuT (K : PySem.W.Frag) (ta : TA) : TI := fun σ H R => ta σ H fun vs H1 => ∃ a xs, vs = [.ref a] ∧ SqT K H1 a xs ∧ R (Iteu K a) H1
theorem pi_enuT {X : Cx} {e : Expr} {ta : TA} {p pos tpos : Pos} {elts : List Expr} {kk : Nat} (hg : Gl X "enumerate") (hm : X.mg "enumerate" = none) (ha : PA X [e] ta) (hs : isStar e = false) :
    PI X (.Tuple elts kk tpos) (.Call (.Name "enumerate" p) [e] [] pos) (iEnuT X.K ta) := by
  refine ⟨fun pins s σ H R I h => ?_⟩
  refine Call_ (ld_blt I hg hm boot_enumerate (PyProof.Rows.callWith_type1 (thn (ha.run pos pins s σ H _ I h) fun us s1 ⟨vs, H1, I1, r1, q1⟩ => ?_) (starEach_plain hs) rfl))
  obtain ⟨a, xs, ex, hq, q⟩ := q1
  subst ex
  cases r1 with
  | cons r rr =>
    cases rr
    cases r
    obtain ⟨its, rv, p', hz⟩ := I1.tuple hq
    refine call_enumT (show s1.heap.IsTuple a its.toArray from p') fun h' he hit hk => wpAny_pyIter_enum he ?_
    have I2 : Inv X pins σ H1 { s1 with heap := h' } := I1.kept (t' := s1.toks) hk
    refine ⟨s1.heap.objs.size + 1, [s1.heap.objs.size + 1, s1.heap.objs.size], _, _, H1, rfl, I2, turn_enumT a (s1.heap.objs.size + 1) s1.heap.objs.size, ⟨⟨.none, he⟩, hit, Nat.succ_ne_self _⟩, fun b hb => ?_, q⟩
    have z : b = s1.heap.objs.size + 1 ∨ b = s1.heap.objs.size := by simpa using hb
    have hle : s1.heap.objs.size ≤ b := by
      rcases z with z | z
      · rw [z]; exact Nat.le_succ _
      · rw [z]; exact Nat.le_refl _
    exact I1.fpOk hle (I1.hok.fresh hle)
theorem enumL_get : ∀ (ds : List D) (k i : Nat), (enumL k ds)[i]? = match ds[i]? with | some d => some (.tup [.int ((k + i : Nat) : Int), d]) | none => none
  | [], k, i => by simp [enumL]
  | d :: ds, k, 0 => by simp [enumL]
  | d :: ds, k, i + 1 => by
    show (enumL (k + 1) ds)[i]? = _
    rw [enumL_get ds (k + 1) i, List.getElem?_cons_succ, show k + 1 + i = k + (i + 1) by omega]
theorem enumL_len : ∀ (ds : List D) (k : Nat), (enumL k ds).length = ds.length
  | [], k => rfl
  | d :: ds, k => by
    show (enumL (k + 1) ds).length + 1 = _
    rw [enumL_len ds (k + 1), List.length_cons]
section
variable {R : RC} {V1 : Hp} {W : WX} {X : Cx} {e : Expr} {p pos : Pos}
theorem enum_rep {V' : Hp} {ds : List D} {vs : List V} {i : Nat} {x : V} {T : Addr} (r : Reps R V' ds vs) (h : vs[i]? = some x) (hT : V' T = some (.tup [.int (i : Nat), x])) : ∃ d, (enumL 0 ds)[i]? = some d ∧ Rep R V' d (.ref T) := by
  obtain ⟨d, hd, rd⟩ := r.getV h
  refine ⟨.tup [.int (i : Nat), d], by rw [enumL_get, hd]; simp, T, _, rfl, .inl (.inl hT), .int (i : Nat), [x], rfl, rfl, x, [], rfl, rd, rfl⟩
theorem walk_el {a : Addr} {ds : List D} {vs : List V} (s : SqL R.K V1 a vs) (r : Reps R V1 ds vs) : Walk R V1 (Ite R.K a) (enumL 0 ds) := by
  refine ⟨fun i H le hi => ?_, fun i H le hi => ⟨vs, le_l le s, ?_⟩, fun i H x H' le hi ⟨T, u, e, nT, eH, h1⟩ => ?_⟩
  · rw [enumL_len] at hi
    obtain ⟨v, g1, _⟩ := r.get (List.getElem?_eq_getElem hi)
    exact ⟨vs, v, le_l le s, g1⟩
  · rw [enumL_len] at hi
    rw [r.length]
    exact hi
  · obtain ⟨d, g1, g2⟩ := r.getV (h1 vs (le_l le s))
    refine ⟨.tup [.int (i : Nat), d], by rw [enumL_get, g1]; simp, by rw [eH]; exact .new nT, fun V' l k => ?_⟩
    rw [e]
    exact pair_rep (x := .int (i : Nat)) rfl (Rep.le l _ _ g2) (k T _ nT (by rw [eH]; exact upd_same))
theorem walk_et {a : Addr} {ds : List D} {vs : List V} (s : SqT R.K V1 a vs) (r : Reps R V1 ds vs) : Walk R V1 (Iteu R.K a) (enumL 0 ds) := by
  refine ⟨fun i H le hi => ?_, fun i H le hi => ⟨vs, le_t le s, ?_⟩, fun i H x H' le hi ⟨T, u, e, nT, eH, h1⟩ => ?_⟩
  · rw [enumL_len] at hi
    obtain ⟨v, g1, _⟩ := r.get (List.getElem?_eq_getElem hi)
    exact ⟨vs, v, le_t le s, g1⟩
  · rw [enumL_len] at hi
    rw [r.length]
    exact hi
  · obtain ⟨d, g1, g2⟩ := r.getV (h1 vs (le_t le s))
    refine ⟨.tup [.int (i : Nat), d], by rw [enumL_get, g1]; simp, by rw [eH]; exact .new nT, fun V' l k => ?_⟩
    rw [e]
    exact pair_rep (x := .int (i : Nat)) rfl (Rep.le l _ _ g2) (k T _ nT (by rw [eH]; exact upd_same))
theorem pi_enumd {m : M D} {elts : List Expr} {kk : Nat} {tpos : Pos} (hK : X.K = R.K) (hg : Gl X "enumerate") (hm : X.mg "enumerate" = none) (h : PE X e (tD R W m)) (hs : isStar e = false) :
    PI X (.Tuple elts kk tpos) (.Call (.Name "enumerate" p) [e] [] pos) (tIt R W (mbind m fun x => mopt (x.seq?.map (enumL 0)))) :=
  PI.imp (PI.or (pi_enum hg hm (pa_cons h pa_nil (starEach_plain hs)) (starEach_plain hs)) (pi_enuT hg hm (pa_cons h pa_nil (starEach_plain hs)) hs)) fun σ H Q ⟨C, L, ρ, E, h2⟩ => by
    unfold iEnum iEnuT
    rw [hK]
    by_cases ht : ∃ xs ρ1, m ρ = .ok (.tup xs) ρ1
    · refine .inr (tA1 ⟨C, L, ρ, E, ?_⟩)
      obtain ⟨xs, ρ1, em⟩ := ht
      have h3 := h2.bind
      unfold RunK at h3 ⊢
      rw [em] at h3 ⊢
      intro L1 H1 E1 S1 v hv
      have k : RunK R W (mopt (some (enumL 0 xs))) σ H1 C L1 ρ1 fun b ρ2 La H2 => Step C L1 H1 La H2 → ∀ J, Walk R (vis C La H2) J b → Q J H2 := h3 L1 H1 E1 S1
      obtain ⟨ds, e1, k2⟩ := RunK.opt k
      cases e1
      obtain ⟨a, vs, e2, s, r⟩ := hv
      exact ⟨a, vs, by rw [e2], le_t (vis_le _ _ _) s, k2 L1 H1 E1 (.refl _ _ _) (.refl _ _ _) _ (walk_et s r)⟩
    · refine .inl (tA1 ⟨C, L, ρ, E, ?_⟩)
      have h3 := h2.bind
      unfold RunK at h3 ⊢
      cases em : m ρ with
      | bad => rw [em] at h3; exact h3.elim
      | exc x ρ1 => rw [em] at h3; exact h3
      | ok x ρ1 =>
        rw [em] at h3
        intro L1 H1 E1 S1 v hv
        have k : RunK R W (mopt (x.seq?.map (enumL 0))) σ H1 C L1 ρ1 fun b ρ2 La H2 => Step C L1 H1 La H2 → ∀ J, Walk R (vis C La H2) J b → Q J H2 := h3 L1 H1 E1 S1
        obtain ⟨ds, e1, k2⟩ := RunK.opt k
        cases x with
        | tup xs => exact absurd ⟨xs, ρ1, em⟩ ht
        | lst xs =>
          cases e1
          obtain ⟨a, vs, e2, s, r⟩ := hv
          exact ⟨a, vs, by rw [e2], .inl (.inl (vis_le _ _ _ _ _ s)), k2 L1 H1 E1 (.refl _ _ _) (.refl _ _ _) _ (walk_el (.inl (.inl s)) r)⟩
        | rol xs =>
          cases e1
          obtain ⟨a, vs, e2, s, r⟩ := hv
          exact ⟨a, vs, by rw [e2], le_l (vis_le _ _ _) s, k2 L1 H1 E1 (.refl _ _ _) (.refl _ _ _) _ (walk_el s r)⟩
        | _ => cases e1
end
end Pu
/-! Pu, part 9s: sorted(set(t)). -/
namespace Pu
open PySem PySem.Spec PyProof.Rows L2
def rSetT (K : PySem.W.Frag) (w : World) : List V → Hp → VK → Prop := fun vs H Q => ∃ (p : Addr) (ns : List Int), vs = [.ref p] ∧ SqT K H p (ns.map V.int) ∧ ns.length ≤ 1000 ∧ ∀ q c, H q = none → c ≤ ns.length → Q (.ref q) (upd H q (SetO w q (fun j => decide (j ∈ ns)) c))
theorem cr_setT {X : Cx} (hc : X.calm = true) : CallR X (.type "set") (rSetT X.K X.w) := by
  intro pins s σ H vs us Q I r h
  obtain ⟨p0, ns, rfl, hq, hl, q⟩ := h
  rw [Vals.ref1 r]
  obtain ⟨its, rv, pt, hz⟩ := I.tuple hq
  have hi : IntsAre its.toArray.toList ns := ints_of_vals rv
  refine call_set_tupI ns (I.ok.hd hc) (show s.heap.IsTuple p0 its.toArray from pt) hi (by unfold scanBound; omega) fun h' tk c R1 hcn k => ?_
  exact ⟨.ref _, upd H s.heap.objs.size (SetO X.w s.heap.objs.size (fun j => decide (j ∈ ns)) c), I.laid (t' := tk) k (Nat.le_refl _) (setO_new R1), rfl, q _ c (I.hok.fresh (Nat.le_refl _)) hcn⟩
theorem insSI_mem {x y : Int} : ∀ {r : List Int}, y ∈ insSI x r ↔ y = x ∨ y ∈ r
  | [] => by simp [insSI]
  | z :: r => by
    rw [insSI]
    split
    · simp
    · split
      · rename_i e; subst e; simp
      · simp only [List.mem_cons, insSI_mem (r := r)]
        constructor <;> (intro h; rcases h with h | h | h <;> simp [h])
theorem setI_mem {y : Int} : ∀ {r : List Int}, y ∈ setI r ↔ y ∈ r
  | [] => by simp [setI]
  | z :: r => by simp [setI, insSI_mem, setI_mem (r := r)]
theorem insSI_up {x : Int} : ∀ {r : List Int}, r.Pairwise (· < ·) → (insSI x r).Pairwise (· < ·)
  | [], _ => by simp [insSI]
  | z :: r, h => by
    have h0 := h
    rw [List.pairwise_cons] at h
    rw [insSI]
    split
    · rename_i lt
      refine List.pairwise_cons.mpr ⟨fun a ha => ?_, h0⟩
      rcases List.mem_cons.mp ha with rfl | ha
      · exact lt
      · have := h.1 a ha; omega
    · split
      · exact h0
      · refine List.pairwise_cons.mpr ⟨fun a ha => ?_, insSI_up h.2⟩
        rcases insSI_mem.mp ha with rfl | ha
        · omega
        · exact h.1 a ha
theorem setI_up : ∀ r : List Int, (setI r).Pairwise (· < ·)
  | [] => .nil
  | z :: r => insSI_up (setI_up r)
theorem up_uniq : ∀ {xs ys : List Int}, xs.Pairwise (· < ·) → ys.Pairwise (· < ·) → (∀ k, k ∈ xs ↔ k ∈ ys) → xs = ys
  | [], [], _, _, _ => rfl
  | [], y :: ys, _, _, h => absurd ((h y).mpr List.mem_cons_self) (by simp)
  | x :: xs, [], _, _, h => absurd ((h x).mp List.mem_cons_self) (by simp)
  | x :: xs, y :: ys, h1, h2, h => by
    rw [List.pairwise_cons] at h1 h2
    have e : x = y := by
      rcases List.mem_cons.mp ((h x).mp List.mem_cons_self) with e | e
      · exact e
      · rcases List.mem_cons.mp ((h y).mpr List.mem_cons_self) with e' | e'
        · exact e'.symm
        · have := h1.1 y e'; have := h2.1 x e; omega
    subst e
    rw [up_uniq h1.2 h2.2 fun k => ?_]
    constructor
    · intro hk
      rcases List.mem_cons.mp ((h k).mp (List.mem_cons_of_mem _ hk)) with e | e
      · subst e; have := h1.1 k hk; omega
      · exact e
    · intro hk
      rcases List.mem_cons.mp ((h k).mpr (List.mem_cons_of_mem _ hk)) with e | e
      · subst e; have := h2.1 k hk; omega
      · exact e
theorem boot_setN : bootBuiltins "set" = some (.type "set") := PyProof.Rows.boot_set
section
variable {R : RC} {W : WX} {X : Cx} {a : Expr} {pos p p2 pos2 : Pos}
theorem pe_ssetd {m : M D} (hK : X.K = R.K) (hc : X.calm = true) (hg : Gl X "sorted") (hm : X.mg "sorted" = none) (hg2 : Gl X "set") (hm2 : X.mg "set" = none) (ha : PE X a (tD R W m)) (hs : isStar a = false) :
    PE X (.Call (.Name "sorted" p) [.Call (.Name "set" p2) [a] [] pos2] [] pos) (tR R W (mbind m fun x => mopt (ssetD [x]))) := by
  refine PE.imp (pe_callB (cr_sortedSet hc) hg hm (by decide +kernel) (pa_cons (pe_callTy (cr_setT hc) hg2 hm2 boot_setN (pa_cons ha pa_nil (starEach_plain hs)) (by decide) (by decide) (starEach_plain hs) (by rfl)) pa_nil (by rfl)) (by decide) (by decide) (by rfl) (by rfl)) fun σ H Q ⟨C, L, ρ, E, h⟩ => ?_
  refine ⟨C, L, ρ, E, h.bind.mono fun x ρ1 L1 H1 E1 S1 k v hv => ?_⟩
  obtain ⟨rv, e1, k2⟩ := k.opt
  unfold ssetD at e1
  cases x with
  | tup xs =>
    simp only at e1
    cases q : allI xs with
    | none => rw [q] at e1; cases e1
    | some ns =>
      rw [q] at e1
      simp only at e1
      split at e1
      · rename_i hz
        cases e1
        obtain ⟨p0, vs, rfl, hp, r⟩ := rep_tup hv
        have ev : vs = ns.map V.int := by
          have := allI_eq q
          subst this
          exact Reps.ints ns r
        subst ev
        refine ⟨p0, ns, rfl, by rw [hK]; exact hp, by omega, fun q0 c nq hcn => ⟨q0, _, c, rfl, upd_same, by omega, fun ms p3 hup hmem hl np => ?_⟩⟩
        have e2 : ms = setI ns := up_uniq hup (setI_up ns) fun k => by rw [hmem k, setI_mem, decide_eq_true_eq]
        subst e2
        have E2 := E1.new (o := SetO X.w q0 (fun j => decide (j ∈ ns)) c) nq
        have st := step_grow (C := C) (L := L1) (H := H1) (Le.new (o := SetO X.w q0 (fun j => decide (j ∈ ns)) c) nq)
        have fin : Fin R C L1 (upd H1 q0 (SetO X.w q0 (fun j => decide (j ∈ ns)) c)) ρ1 σ (.nw ((setI ns).map D.int)) Q := fun L' H' E' S' u hu => k2 L' H' E' (st.trans E2 S') (st.trans E2 S') u hu
        exact fin.newL E2 (Reps.of_ints _) p3 np
      · cases e1
  | _ => cases e1
end
end Pu
/-! Pu, part 7r: xs[::-1]. -/
namespace Pu
open PySem PySem.Spec PyProof.Rows L2 HT
section
variable {prog : Program} {w : World} {A : Around} {E : Value → Shared → Prop} {s : Shared}
theorem sliceApplied_rev {sl : Addr} {vs : Value} {n : Nat} {Q : Int × Int × Nat → Shared → Prop} (hs : s.heap.IsSliceOf sl .none .none vs) (ps : IsPart vs (some (-1)))
    (h : Q ((n : Int) - 1, -1, n) s) : wpAny (model prog w) A (Builtin.Slice.sliceApplied (.ref sl) (pure (n : Int))) Q E s := by
  obtain ⟨os, hos, hcs, hds⟩ := id hs
  unfold Builtin.Slice.sliceApplied Builtin.Slice.sliceFields
  refine wpAny_bind (wpAny_bind (wpAny_field hos hds (x := .none) rfl (wpAny_bind (wpAny_field hos hds (x := .none) rfl (wpAny_bind (wpAny_field hos hds (x := vs) rfl (wpAny_pure ?_)))))))
  refine wpAny_bind (slicePart_ ps ?_)
  show wpAny _ _ (if ((-1 : Int) == 0) = true then _ else _) _ _ s
  rw [if_neg (by decide)]
  refine wpAny_bind (slicePart_none (wpAny_bind (slicePart_none (wpAny_bind (wpAny_pure ?_)))))
  have e1 : Builtin.Slice.sliceAdjust none none (-1) (n : Int) = ((n : Int) - 1, -1) := rfl
  have e2 : Builtin.Slice.slicePlaces ((n : Int) - 1) (-1) (-1) = n := by
    unfold Builtin.Slice.slicePlaces
    have h1 : ¬ ((-1 : Int) > 0) := by decide
    rw [if_neg h1, show (- -1 : Int) = 1 by decide, Int.ediv_one]
    split <;> omega
  show wpAny _ _ (match Builtin.Slice.sliceAdjust none none (-1) (n : Int) with | (lo, hi) => pure (lo, (-1 : Int), Builtin.Slice.slicePlaces lo hi (-1))) _ _ s
  rw [e1]
  show wpAny _ _ (pure ((n : Int) - 1, (-1 : Int), Builtin.Slice.slicePlaces ((n : Int) - 1) (-1) (-1))) _ _ s
  rw [e2]
  exact wpAny_pure h
theorem fm_same {α β : Type} {f g : α → Option β} : ∀ {l : List α}, (∀ m ∈ l, f m = g m) → l.filterMap f = l.filterMap g
  | [], _ => rfl
  | x :: l, h => by
    rw [List.filterMap_cons, List.filterMap_cons, h x List.mem_cons_self, fm_same (l := l) fun m hm => h m (List.mem_cons_of_mem _ hm)]
theorem pick_rev (xs : Array Value) : ((List.range xs.size).filterMap fun (m : Nat) => xs[(((xs.size : Int) - 1) + (m : Int) * -1).toNat]?).toArray = xs.toList.reverse.toArray := by
  have e : (List.range xs.size).filterMap (fun (m : Nat) => xs[(((xs.size : Int) - 1) + (m : Int) * -1).toNat]?) = ((List.range xs.size).map fun k => xs.size - 1 - k).filterMap (xs[·]?) := by
    rw [List.filterMap_map]
    refine fm_same fun m hm => ?_
    have := List.mem_range.mp hm
    show _ = xs[xs.size - 1 - m]?
    congr 1
    omega
  rw [e, PySem.W.krv_range, List.filterMap_reverse, PySem.W.krv_all]
theorem getItem_tuple_rev {t sl : Addr} {items : Array Value} {vs : Value} {Q : Value → Shared → Prop} (ht : IsTup s.heap t items) (hs : s.heap.IsSliceOf sl .none .none vs) (ps : IsPart vs (some (-1)))
    (h : Q (.ref s.heap.objs.size) { s with heap := s.heap.push { cls := .type "tuple", data := .seq items.toList.reverse.toArray } })
    (hsz : items.size ≤ sizeLine) : wpAny (model prog w) A (getItem (.ref t) (.ref sl)) Q E s := by
  have htake : sizeOk (.seq items.toList.reverse.toArray) := by
    show items.toList.reverse.toArray.size ≤ sizeLine
    rw [List.size_toArray, List.length_reverse, Array.length_toList]
    exact hsz
  obtain ⟨os, hos, hcs, hds⟩ := id hs
  have hTs : s.TypeIs (.ref sl) "slice" := ⟨os, hos, hcs⟩
  unfold getItem
  try with_reducible refine wpAny_holding ?_
  first | refine wpAny_bind (wpAny_pure ?_) | skip
  refine wpAny_bind (wpAny_sequenceKey ht.typeIs (by decide) ?_)
  refine wpAny_bind (wpAny_callSpecial?_slot (name := Str.ofString "__getitem__") ht.typeIs PyProof.Rows.slot_tuple_getitem
    (wpAny_call_entry PyProof.Rows.slot_tuple_getitem ht.typeIs entry_tuple_getitem ?_ (args_tuple_getitem _ _)))
  show wpAny _ _ (Builtin.Tuple.tupleItemsOf (.ref t) >>= _) _ _ s
  refine wpAny_bind (tupleItemsOf_ ht ?_)
  refine wpAny_bind (wpAny_typeOf hTs ?_)
  rw [if_pos (by decide)]
  refine wpAny_bind (sliceApplied_rev hs ps ?_)
  have hno : ¬ ((((items.size : Int) - 1) == 0 && (-1 : Int) == 1 && items.size == items.size) = true) := by
    intro q
    rw [Bool.and_eq_true, Bool.and_eq_true] at q
    have q1 : (-1 : Int) = 1 := eq_of_beq q.1.2
    omega
  show wpAny _ _ (if (((items.size : Int) - 1) == 0 && (-1 : Int) == 1 && items.size == items.size) = true then _ else _) _ _ s
  rw [if_neg hno, pick_rev]
  first
    | exact wpAny_bind (m := Builtin.Tuple.tupleExact _) (wpAny_newObj_type (wpAny_pure ⟨_, rfl, wpAny_pure h⟩) htake)
    | exact wpAny_bind (m := Builtin.Tuple.tupleExact _) (wpAny_newObj_type (wpAny_bind (wpAny_pure (wpAny_pure ⟨_, rfl, wpAny_pure h⟩))) htake)
    | exact wpAny_bind (wpAny_bind (m := Builtin.Tuple.tupleExact _) (wpAny_newObj_type (wpAny_pure (wpAny_pure ⟨_, rfl, wpAny_pure h⟩)) htake))
    | exact wpAny_bind (wpAny_bind (m := Builtin.Tuple.tupleExact _) (wpAny_newObj_type (wpAny_pure ⟨_, rfl, wpAny_pure h⟩) htake))
end
/-- x[::-1], a list or a tuple -/
def tRev (K : PySem.W.Frag) (te : TE) : TE := fun σ H Q => te σ H fun x H1 => (∃ a xs, x = .ref a ∧ SqL K H1 a xs ∧ ∀ p, H1 p = none → Q (.ref p) (upd H1 p (.lst xs.reverse))) ∨ (∃ a xs, x = .ref a ∧ SqT K H1 a xs ∧ ∀ p, H1 p = none → Q (.ref p) (upd H1 p (.tup xs.reverse)))
theorem pe_rev0 {X : Cx} {e : Expr} {te : TE} {k : Nat} {p1 p2 p3 pos : Pos} (he : PE X e te) : PE X (.Subscript e (.Slice none none (some (.UnaryOp .USub (.Constant (.int 1) k p1) p2)) p3) pos) (tRev X.K te) := by
  refine ⟨fun pins s σ H Q I h => ?_⟩
  refine Subscript_ (thn (he.run pins s σ H _ I h) fun v s1 ⟨x, H1, I1, r1, q1⟩ => ?_)
  have hst : PO X (some (.UnaryOp .USub (.Constant (.int 1) k p1) p2)) (tPart (tUn (rU fun i => .int (-i)) (tC (.int 1)))) := po_some (pe_un un_neg pe_int)
  refine wpAny_Slice (thn (po_none.run pins s1 σ H1 (fun o H2 => o = none ∧ H2 = H1) I1 ⟨rfl, rfl⟩) fun vl s2 ⟨l, H2, I2, pl, el, e2⟩ => ?_)
  subst el e2
  refine thn (po_none.run pins s2 σ H2 (fun o H3 => o = none ∧ H3 = H2) I2 ⟨rfl, rfl⟩) fun vu s3 ⟨u, H3, I3, pu, eu, e3⟩ => ?_
  subst eu e3
  refine thn (hst.run pins s3 σ H3 (fun o H4 => o = some (-1) ∧ H4 = H3) I3 ⟨1, rfl, -1, rfl, rfl, rfl⟩) fun vs s4 ⟨o, H4, I4, ps, eo, e4⟩ => ?_
  subst eo e4
  have I5 : L2.Inv X pins σ H4 { s4 with heap := s4.heap.push { cls := .type "slice", data := .fields #[vl, vu, vs] } } := I4.kept (t' := s4.toks) fun b ob q => Heap.get?_push_of_some _ q
  rcases q1 with ⟨a, xs, ex, hx, q⟩ | ⟨a, xs, ex, hx, q⟩
  · subst ex
    cases r1
    obtain ⟨its, r, ht, hz⟩ := I5.list hx
    have hlen := r.length
    show wpAny (model X.prog X.w) X.A (subscriptTail e (.Slice none none (some (.UnaryOp .USub (.Constant (.int 1) k p1) p2)) p3) (.ref a) (.ref s4.heap.objs.size)) (EP X pins σ Q) X.xe { s4 with heap := s4.heap.push { cls := .type "slice", data := .fields #[vl, vu, vs] } }
    refine tail_any (ops := [.ref a, .ref s4.heap.objs.size]) ht.isList.typeIs (PySem.slot_list_getitem.lookup) ?_ (by with_unfolding_all rfl)
    refine wpAny_getItem_list_slice ht.isList (Heap.IsSliceOf.new _ vl vu vs) pl pu ps (by decide) ?_ (by rw [List.size_toArray]; omega)
    rw [PySem.W.krv_pick]
    refine ⟨.ref _, _, I5.laid (t' := s4.toks) (o := .lst xs.reverse) (fun b ob q => Heap.get?_push_of_some _ q) (Nat.le_refl _) ?_, rfl, q _ (I5.hok.fresh (Nat.le_refl _))⟩
    exact ⟨by rw [List.length_reverse]; exact hz, _, 0, r.reverse, Heap.get?_push_size _ rfl⟩
  · subst ex
    cases r1
    cases pl
    cases pu
    obtain ⟨its, r, ht, hz⟩ := I5.tuple hx
    have hlen := r.length
    show wpAny (model X.prog X.w) X.A (subscriptTail e (.Slice none none (some (.UnaryOp .USub (.Constant (.int 1) k p1) p2)) p3) (.ref a) (.ref s4.heap.objs.size)) (EP X pins σ Q) X.xe { s4 with heap := s4.heap.push { cls := .type "slice", data := .fields #[.none, .none, vs] } }
    refine tail_any (ops := [.ref a, .ref s4.heap.objs.size]) ht.typeIs (PyProof.Rows.slot_tuple_getitem.lookup) ?_ (by with_unfolding_all rfl)
    refine getItem_tuple_rev ht (Heap.IsSliceOf.new _ .none .none vs) ps ?_ (by rw [List.size_toArray]; omega)
    refine ⟨.ref _, _, I5.laid (t' := s4.toks) (o := .tup xs.reverse) (fun b ob q => Heap.get?_push_of_some _ q) (Nat.le_refl _) ?_, rfl, q _ (I5.hok.fresh (Nat.le_refl _))⟩
    exact ⟨by rw [List.length_reverse]; exact hz, _, r.reverse, IsTup.new _ _⟩
section
variable {R : RC} {W : WX} {X : Cx} {a : Expr} {pos : Pos}
theorem pe_revd {m : M D} {k : Nat} {p1 p2 p3 : Pos} (hK : X.K = R.K) (ha : PE X a (tD R W m)) : PE X (.Subscript a (.Slice none none (some (.UnaryOp .USub (.Constant (.int 1) k p1) p2)) p3) pos) (tR R W (mbind m fun x => mopt (revD x))) :=
  PE.imp (pe_rev0 ha) fun σ H Q ⟨C, L, ρ, E, h⟩ => by
    refine ⟨C, L, ρ, E, h.bind.mono fun x ρ1 L1 H1 E1 S1 k v hv => ?_⟩
    obtain ⟨rv, e1, k4⟩ := k.opt
    have fin : Fin R C L1 H1 ρ1 σ rv Q := fun L' H' E' S' w hw => k4 L' H' E' S' S' w hw
    rw [hK]
    cases x with
    | lst xs =>
      cases e1
      obtain ⟨p, vs, rfl, hp, r⟩ := rep_lst hv
      exact .inl ⟨p, vs, rfl, .inl (.inl hp), fin.newL E1 (Reps.rev r)⟩
    | rol xs =>
      cases e1
      obtain ⟨p, vs, rfl, hp, r⟩ := rep_rol hv
      exact .inl ⟨p, vs, rfl, hp, fin.newL E1 (Reps.rev r)⟩
    | tup xs =>
      cases e1
      obtain ⟨p, vs, rfl, hp, r⟩ := rep_tup hv
      exact .inr ⟨p, vs, rfl, hp, fin.newT E1 (Reps.rev r)⟩
    | _ => cases e1
end
end Pu
/-! Pu, part 18: a checked text does what its IR says: expressions. -/
namespace Pu
open PySem PySem.Spec PyProof.Rows L2

section
variable {R : RC} {W : WX} {G : FT} {Vc : CT} {S : SC} {X : Cx} {pos p : Pos}
theorem callM_len {φ : M Rv} {as : List Ag} {n : Nat} {σ : L2.St} {H : Hp} {C : Cc} {L : Addr → Bool} {ρ : Env} {K : Rv → Env → (Addr → Bool) → Hp → Prop} (h : RunK R W (callM φ as) σ H C L ρ K) (ar : ∀ args, args.length = n ∨ φ args = .bad) : as.length = n := by
  unfold RunK callM at h
  cases nd : nodupB (iosOf as) with
  | false => rw [nd] at h; exact h.elim
  | true =>
    rw [nd, if_pos rfl] at h
    cases q : agsIn ρ as with
    | none => rw [q] at h; exact h.elim
    | some args =>
      rw [q] at h
      rcases ar args with e | e
      · rw [← e]; exact (agsIn_len q).symm
      · simp only [e] at h
theorem agsD {C : Cc} {L : Addr → Bool} {H : Hp} {σ : L2.St} : ∀ {xs : List D} {vs : List V}, Reps R H xs vs → AgsOk R H σ (xs.map Ag.d) vs
  | [], vs, h => h
  | d :: ds, vs, h => by
    obtain ⟨v, r, e, h1, h2⟩ := h
    exact ⟨v, r, e, h1, agsD (C := C) (L := L) h2⟩
theorem pe_olen {i : Nat} {x : Str} {p2 : Pos} (hg : Gl X "len") (hm : X.mg "len" = none) (hN : X.N[i]? = some x) (hv : Vis X.env.scope x) (hd : (x == ("__debug__" : Str)) = false) (hcd : (x == ("__classdict__" : Str)) = false) :
    PE X (.Call (.Name "len" p) [.Name x p2] [] pos) (tR R W (mbind (own i) fun xs => mret (.im (.int xs.length)))) :=
  PE.imp (pe_callB call_len_seq hg hm PySem.boot_len (pa_cons (pe_var hN hv hd hcd) pa_nil (by rfl))) fun σ H Q ⟨C, L, ρ, E, h⟩ => by
    obtain ⟨a, vs, xs, hi, hp, r, _, _, k⟩ := run_own E h.bind
    have k := k L H E (.refl _ _ _)
    refine ⟨.ref a, hi, a, vs, rfl, .inl (.inl (.inl hp)), ?_⟩
    rw [r.length]
    exact k.ret L H E (.refl _ _ _) (.refl _ _ _) _ rfl
theorem pys_nil {xs : List D} {ys : List PyData} (h : D.pys xs = some ys) : PyData.eqv (.list ys) (.list []) = xs.isEmpty := by
  cases xs with
  | nil => cases h; rfl
  | cons x xs =>
    rw [D.pys] at h
    cases q : D.py x with
    | none => rw [q] at h; cases h
    | some y =>
      cases q2 : D.pys xs with
      | none => rw [q, q2] at h; cases h
      | some z => rw [q, q2] at h; cases h; rfl
theorem pt_onil {neg : Bool} {i : Nat} {x : Str} {p2 p3 : Pos} (hK : X.K = R.K) (hu : X.A.units + 64 < cLine) (hN : X.N[i]? = some x) (hv : Vis X.env.scope x) (hd : (x == ("__debug__" : Str)) = false) (hcd : (x == ("__classdict__" : Str)) = false) :
    PT X (.Compare (.Name x p2) [if neg = true then .NotEq else .Eq] [.List [] p3] pos) (tT R W (mbind (own i) (onilS neg))) := by
  have sh0 : SeqAt.shaped (.list []) = true := by decide
  cases neg with
  | true =>
    refine PT.imp (pt_cmpR (op_neD hu) (pe_var hN hv hd hcd) (pe_lst pa_nil) rfl) fun σ H Q ⟨C, L, ρ, E, h⟩ => ?_
    obtain ⟨p, vs, xs, hi, hp, r, _, _, k⟩ := run_own E h.bind
    have k := k L H E (.refl _ _ _)
    unfold onilS at k
    cases q : D.pys xs with
    | none => rw [q] at k; exact k.nobad.elim
    | some ys =>
      rw [q] at k
      simp only at k
      split at k
      · rename_i hz
        refine ⟨.ref p, hi, by simp, fun c nc => ⟨.list ys, .list [], ?_, ?_, hz, sh0, ?_⟩⟩
        · rw [hK]
          exact Dp.lst (.inl (le_rd (.new nc) (.inl hp))) (Reps.dp xs vs ys (Reps.le ((vis_le C L H).trans (Le.new nc)) _ _ r) q)
        · exact Dp.lst (.inl (.inl upd_same)) .nil
        · rw [pys_nil q]
          exact ⟨_, rfl, k L _ (E.new nc) (step_grow (Le.new nc)) (step_grow (Le.new nc))⟩
      · exact k.nobad.elim
  | false =>
    refine PT.imp (pt_cmpR (op_eqD hu) (pe_var hN hv hd hcd) (pe_lst pa_nil) rfl) fun σ H Q ⟨C, L, ρ, E, h⟩ => ?_
    obtain ⟨p, vs, xs, hi, hp, r, _, _, k⟩ := run_own E h.bind
    have k := k L H E (.refl _ _ _)
    unfold onilS at k
    cases q : D.pys xs with
    | none => rw [q] at k; exact k.nobad.elim
    | some ys =>
      rw [q] at k
      simp only at k
      split at k
      · rename_i hz
        refine ⟨.ref p, hi, by simp, fun c nc => ⟨.list ys, .list [], ?_, ?_, hz, sh0, ?_⟩⟩
        · rw [hK]
          exact Dp.lst (.inl (le_rd (.new nc) (.inl hp))) (Reps.dp xs vs ys (Reps.le ((vis_le C L H).trans (Le.new nc)) _ _ r) q)
        · exact Dp.lst (.inl (.inl upd_same)) .nil
        · rw [pys_nil q]
          exact ⟨_, rfl, k L _ (E.new nc) (step_grow (Le.new nc)) (step_grow (Le.new nc))⟩
      · exact k.nobad.elim
theorem pk_nl {X : Cx} : PK X [] (tDs R W (mret [])) := ⟨fun pos pins s σ H Q I h => pk_nil.run pos pins s σ H Q I (by
  obtain ⟨C, L, ρ, E, h⟩ := h
  exact h.ret L H E (.refl _ _ _) [] rfl)⟩
theorem pk_cn {X : Cx} {e : Expr} {nm : Option Str} {kpos : Pos} {kws : List Keyword} {m : M D} {ms : M (List D)} (ha : PE X e (tD R W m)) (hr : PK X kws (tDs R W ms)) : PK X (⟨nm, e, kpos⟩ :: kws) (tDs R W (mbind m fun x => mbind ms fun xs => mret (x :: xs))) :=
  ⟨fun pos pins s σ H Q I h => (pk_cons ha hr).run pos pins s σ H Q I (by
    obtain ⟨C, L, ρ, E, h⟩ := h
    refine ⟨C, L, ρ, E, h.bind.mono fun x ρ1 L1 H1 E1 S1 k v hv => ?_⟩
    refine ⟨C, L1, ρ1, E1, k.bind.mono fun xs ρ2 La H2 E2 S2 k2 vs hvs => ?_⟩
    exact k2.ret La H2 E2 (.refl _ _ _) (.refl _ _ _) (S2.trans E2 (.refl _ _ _)) _ ⟨v, vs, rfl, Rep.le S2.vis _ _ hv, hvs⟩)⟩
theorem permL_reps {H : Hp} : ∀ {pm : List Nat} {xs : List D} {vs : List V}, Reps R H xs vs → Reps R H (permL pm xs) (permL pm vs)
  | [], xs, vs, h => rfl
  | i :: pm, xs, vs, h => by
    rw [permL, permL]
    cases q : xs[i]? with
    | none =>
      have q2 : vs[i]? = none := by
        rw [List.getElem?_eq_none_iff] at q ⊢
        rw [h.length]; exact q
      rw [q2]
      exact permL_reps h
    | some d =>
      obtain ⟨v, q2, r⟩ := h.get q
      rw [q2]
      exact ⟨v, _, rfl, r, permL_reps h⟩
theorem pe_callkd {kws : List Keyword} {ns : List Str} {pm : List Nat} {m : M (List D)} {k : Nat} {x : Str} (h : CxG R W G Vc S X) (hx : S.gf[k]? = some x) (hg : Gl X x) (hdb : (x == ("__debug__" : Str)) = false) (hkp : (k, ns, pm) ∈ S.kp) (ha : PK X kws (tDs R W m)) (hl : ∀ xs ρ ρ', m ρ = .ok xs ρ' → xs.length = ns.length) (hn : kwOk kws ns = true) :
    PE X (.Call (.Name x p) [] kws pos) (tR R W (mbind m fun xs => match G k with
      | some φ => callM φ ((permL pm xs).map .d)
      | none => mbad)) := by
  obtain ⟨f, j, fd, ps, φ, eG, ef, em, F, hr, hk, hb, ar, hkb⟩ := h.gf k x hx
  obtain ⟨k1, k2, k3⟩ := kwOk_all (pos := pos) (env := X.env) hn
  refine PE.imp (pe_callKG F hr hg em hk (hkb ns pm hkp) h.tk ha hdb k1 k2 (by rw [k3]; rfl)) fun σ H Q ⟨C, L, ρ, E, hh⟩ => ?_
  have hh := hh.bind
  have len : ∀ xs ρ', m ρ = .ok xs ρ' → xs.length = ns.length := fun xs ρ' e => hl xs ρ ρ' e
  refine ⟨C, L, ρ, E, ?_⟩
  unfold RunK at hh ⊢
  cases q : m ρ with
  | bad => rw [q] at hh; exact hh
  | exc y ρ1 => rw [q] at hh; exact hh
  | ok xs ρ1 =>
    rw [q] at hh
    intro L1 H1 E1 S1 vs hv
    have kk := hh L1 H1 E1 S1
    rw [eG] at kk
    refine ⟨by rw [hv.length]; exact len xs ρ1 q, ?_⟩
    exact run_call E1 (RunK.mono kk fun r ρ2 La H2 E2 S2 k3 => k3 S2) (agsD (C := C) (L := L1) (permL_reps hv)) (callM_len kk ar)
theorem pe_fnm {k : Nat} {x : Str} {f : Addr} (hg : Gl X x) (hm : X.mg x = some (.ref f)) (hd : (x == ("__debug__" : Str)) = false) (hf : R.fa k = some f) : PE X (.Name x pos) (tR R W (mret (.im (.fn k)))) :=
  PE.imp (pe_glob (v := .ref f) hg hm rfl hd) fun σ H Q ⟨C, L, ρ, E, h⟩ => h.ret L H E (.refl _ _ _) _ ⟨f, rfl, hf⟩
theorem pe_cst {k : Nat} {x : Str} {d : D} {v : V} {u : Value} (hg : Gl X x) (hm : X.mg x = some u) (r : RelV v u) (hd : (x == ("__debug__" : Str)) = false) (hk : Vc k = some d) (hr : ∀ H, Rep R H d v) : PE X (.Name x pos) (tR R W (mopt ((Vc k).map .im))) :=
  PE.imp (pe_glob hg hm r hd) fun σ H Q ⟨C, L, ρ, E, h⟩ => by
    rw [hk] at h
    exact RunK.ret (a := Rv.im d) h L H E (.refl _ _ _) _ (hr _)
theorem pe_calld {es : List Expr} {m : M (List Ag)} {k : Nat} {x : Str} (h : CxG R W G Vc S X) (hx : S.gf[k]? = some x) (hg : Gl X x) (hdb : (x == ("__debug__" : Str)) = false) (ha : PA X es (tAs R W m)) (hne : es.isEmpty = false) (hs : (es.all fun e => !isStar e) = true) :
    PE X (.Call (.Name x p) es [] pos) (tR R W (mbind m fun xs => match G k with
      | some φ => callM φ xs
      | none => mbad)) := by
  obtain ⟨f, j, fd, ps, φ, eG, ef, em, F, hr, hk, hb, ar, _⟩ := h.gf k x hx
  cases es with
  | nil => cases hne
  | cons e es =>
    refine PE.imp (pe_callG F hr hg em hk hb h.tk ha hs hdb) fun σ H Q ⟨C, L, ρ, E, hh⟩ => ?_
    rw [eG] at hh
    exact ⟨C, L, ρ, E, hh.bind.mono fun as ρ1 L1 H1 E1 S1 kk vs hv => run_call E1 (kk.mono fun r ρ2 La H2 E2 S2 k3 => k3 S2) hv (callM_len kk ar)⟩
theorem pe_callvd {es : List Expr} {m : M (List D)} {i : Nat} {x : Str} (h : CxG R W G Vc S X) (hN : X.N[i]? = some x) (hv : Vis X.env.scope x) (hd : (x == ("__debug__" : Str)) = false) (hcd : (x == ("__classdict__" : Str)) = false) (ha : PA X es (tDs R W m)) (hne : es.isEmpty = false) (hs : (es.all fun e => !isStar e) = true) :
    PE X (.Call (.Name x p) es [] pos) (tR R W (mbind (rd i) fun f => match f with
      | .im (.fn k) => match G k with
        | some φ => mbind m fun xs => callM φ (xs.map .d)
        | none => mbad
      | _ => mbad)) := by
  cases es with
  | nil => cases hne
  | cons e es =>
    refine PE.imp (pe_callVG (k := fun f sp => ∃ k φ n, R.fa k = some f ∧ G k = some φ ∧ sp = spF R n φ ∧ ∀ args, args.length = n ∨ φ args = .bad) hN hv hd hcd h.tk ha hs fun f sp ⟨k, φ, n, e1, e2, e3, ar⟩ => ?_) fun σ H Q ⟨C, L, ρ, E, hh⟩ => ?_
    · obtain ⟨y, hy⟩ := h.gfn k φ e2
      obtain ⟨f', j, fd, ps, φ', eG, ef, em, F, hr, hk, hb, ar', _⟩ := h.gf k y hy
      rw [e1] at ef
      cases ef
      rw [e2] at eG
      cases eG
      subst e3
      refine ⟨j, fd, ps, F.imp fun vs H Q E ⟨C, args, l1, l2, l3⟩ => ?_, hr, hk, hb⟩
      refine ⟨C, args, ?_, l2, l3⟩
      have la : args.length = ps.length := by
        rcases ar' args with z | z
        · exact z
        · rw [z] at l3; exact l3.elim
      rw [← la, l2.len, List.length_map]
    · obtain ⟨v, r, ρ', L', hi, E', S', rv, kk⟩ := run_rd E hh.bind
      cases r with
      | nw _ => exact kk.nobad.elim
      | im d =>
        cases d with
        | fn k =>
          obtain ⟨f, e1, e2⟩ := rv
          subst e1
          cases eg : G k with
          | none => simp only [eg] at kk; exact kk.nobad.elim
          | some φ0 =>
          obtain ⟨y, hy⟩ := h.gfn k φ0 eg
          obtain ⟨f', j, fd, ps, φ, eG, ef, em, F, hr, hk, hb, ar, _⟩ := h.gf k y hy
          simp only [eG] at kk
          exact ⟨f, spF R ps.length φ, hi, ⟨k, φ, ps.length, e2, eG, rfl, ar⟩, C, L', ρ', E', kk.bind.mono fun xs ρ1 L1 H1 E1 S1 k2 vs hv => run_call E1 (k2.mono fun r ρ2 La H2 E2 S2 k3 => k3 S2 (S1.trans E1 S2)) (agsD (C := C) (L := L1) hv) (callM_len k2 ar)⟩
        | _ => exact kk.nobad.elim
end
end Pu
/-! Pu, part 19: a checked expression does what its IR says. -/
namespace Pu
open PySem PySem.Spec PyProof.Rows L2

theorem opB_of {a b : BoolOp} (h : opB a b = true) : a = b := by
  cases a <;> cases b <;> first | rfl | cases h
theorem Cn.is_of {c : Cn} {k : Const} : c.is k = true → (match c with | .non => Const.none | .bl b => .bool b | .int i => .int i | .str x => .str x) = k := by
  intro h
  cases c <;> cases k <;> first | rfl | (cases h; done) | skip
  · have e : _ = _ := eq_of_beq h
    rw [e]
  · have e : _ = _ := eq_of_beq h
    rw [e]
  · have e : _ = _ := eq_of_beq h
    rw [e]
theorem vn_of {S : SC} {i : Nat} {x : Expr} (h : (match vName x with | some n => S.vr i n | none => false) = true) : ∃ n p, x = .Name n p ∧ S.vr i n = true := by
  split at h
  · rename_i n e
    obtain ⟨p, rfl⟩ := vName_of e
    exact ⟨n, p, rfl, h⟩
  · cases h
theorem isStar_f {b : Bool} (h : (!b) = true) : b = false := by cases b <;> first | rfl | cases h
section
variable {R : RC} {G : FT} {Vc : CT}
theorem pe_fz {W : WX} {X : Cx} {x : Expr} {m : M Rv} (h : PE X x (tR R W m)) : PE X x (tD R W (fz m)) := PE.imp h fun σ H Q => tD_of
theorem Es.all_star : ∀ (es : Es) {S : SC} {xs : List Expr}, es.chk S xs = true → (xs.all fun e => !isStar e) = true
  | .nil, S, xs, k => by
    rw [Es.chk] at k
    cases xs with
    | nil => rfl
    | cons _ _ => cases k
  | .cons a es, S, xs, k => by
    cases xs with
    | nil => rw [Es.chk] at k; cases k
    | cons x r =>
      rw [Es.chk] at k
      simp only [Bool.and_eq_true] at k
      rw [List.all_cons, k.2, Es.all_star es k.1.2]
      rfl
theorem As.all_star : ∀ (es : As) {S : SC} {xs : List Expr}, es.chk S xs = true → (xs.all fun e => !isStar e) = true
  | .nil, S, xs, k => by
    rw [As.chk] at k
    cases xs with
    | nil => rfl
    | cons _ _ => cases k
  | .e a es, S, xs, k => by
    cases xs with
    | nil => rw [As.chk] at k; cases k
    | cons x r =>
      rw [As.chk] at k
      simp only [Bool.and_eq_true] at k
      rw [List.all_cons, k.2, As.all_star es k.1.2]
      rfl
  | .io i es, S, xs, k => by
    cases xs with
    | nil => rw [As.chk] at k; cases k
    | cons x r =>
      rw [As.chk] at k
      simp only [Bool.and_eq_true] at k
      obtain ⟨n, p, rfl, _⟩ := vn_of k.1
      rw [List.all_cons, As.all_star es k.2]
      rfl
theorem Tgs.all_star : ∀ (es : Tgs) {S : SC} {xs : List Expr}, es.chk S xs = true → (xs.all fun e => !isStar e) = true ∧ es.len = xs.length
  | .nil, S, xs, k => by
    rw [Tgs.chk] at k
    cases xs with
    | nil => exact ⟨rfl, rfl⟩
    | cons _ _ => cases k
  | .cons a es, S, xs, k => by
    cases xs with
    | nil => rw [Tgs.chk] at k; cases k
    | cons x r =>
      rw [Tgs.chk] at k
      simp only [Bool.and_eq_true] at k
      obtain ⟨h1, h2⟩ := Tgs.all_star es k.1.2
      rw [List.all_cons, k.2, h1, List.length_cons, Tgs.len, h2]
      exact ⟨rfl, rfl⟩

theorem kwVals_len : ∀ kws : List Keyword, (kwVals kws).length = kws.length
  | [] => rfl
  | ⟨_, _, _⟩ :: r => by rw [kwVals, List.length_cons, List.length_cons, kwVals_len r]
theorem Es.den_len : ∀ (es : Es) {S : SC} {xs : List Expr} {ρ ρ' : Env} {ds : List D}, es.chk S xs = true → es.den G Vc ρ = .ok ds ρ' → ds.length = xs.length
  | .nil, S, xs, ρ, ρ', ds, k, e => by
    rw [Es.chk] at k
    rw [Es.den] at e
    cases xs with
    | nil => cases e; rfl
    | cons _ _ => cases k
  | .cons a es, S, xs, ρ, ρ', ds, k, e => by
    cases xs with
    | nil => rw [Es.chk] at k; cases k
    | cons x r =>
      rw [Es.chk] at k
      simp only [Bool.and_eq_true] at k
      rw [Es.den] at e
      unfold mbind at e
      cases q : fz (a.den G Vc) ρ with
      | bad => rw [q] at e; cases e
      | exc _ _ => rw [q] at e; cases e
      | ok d ρ1 =>
        rw [q] at e
        simp only at e
        cases q2 : es.den G Vc ρ1 with
        | bad => rw [q2] at e; cases e
        | exc _ _ => rw [q2] at e; cases e
        | ok ds2 ρ2 =>
          rw [q2] at e
          cases e
          rw [List.length_cons, List.length_cons, Es.den_len es k.1.2 q2]
theorem blt_mem {x : Str} {h : x ∈ bltN} : x ∈ bltN := h
theorem bf_blt (f : Bf) : f.name ∈ bltN := by cases f <;> decide
theorem ty_blt {T : String} (h : isTys.contains T = true) : T ∈ isTys ∧ Str.ofString T ∈ bltN := by
  have hT : T ∈ isTys := by simpa using h
  refine ⟨hT, ?_⟩
  have cs : T = "int" ∨ T = "bool" ∨ T = "tuple" ∨ T = "str" ∨ T = "list" := by simpa [isTys] using hT
  rcases cs with rfl | rfl | rfl | rfl | rfl <;> decide
abbrev PEok (R : RC) (G : FT) (Vc : CT) (e : E) : Prop := ∀ {W : WX} {S : SC} {X : Cx}, CxG R W G Vc S X → ∀ {x : Expr}, e.chk S x = true → PE X x (tR R W (e.den G Vc))
mutual
theorem okE : ∀ (e : E) {W : WX} {S : SC} {X : Cx}, CxG R W G Vc S X → ∀ {x : Expr}, e.chk S x = true → PE X x (tR R W (e.den G Vc))
  | .c c0, W, S, X, h, x, k => by
    rw [E.chk] at k
    split at k
    · rename_i y e
      obtain ⟨j, p, rfl⟩ := vConst_of e
      exact pe_cn (Cn.is_of k)
    · cases k
  | .g n, W, S, X, h, x, k => by
    rw [E.chk] at k
    split at k
    · rename_i y e
      obtain ⟨p, rfl⟩ := vName_of e
      simp only [Bool.and_eq_true, SC.ok, Bool.not_eq_true'] at k
      obtain ⟨d, v, u, h1, h2, h3, h4⟩ := h.gc n y (atN_of k.1.1)
      exact pe_cst (h.gl k.1.2) h2 h3 k.2.1 h1 h4
    · cases k
  | .f n, W, S, X, h, x, k => by
    rw [E.chk] at k
    split at k
    · rename_i y e
      obtain ⟨p, rfl⟩ := vName_of e
      simp only [Bool.and_eq_true, SC.ok, Bool.not_eq_true'] at k
      obtain ⟨f, j, fd, ps, φ, h1, h2, h3, _⟩ := h.gf n y (atN_of k.1.1)
      exact pe_fnm (h.gl k.1.2) h3 k.2.1 h2
    · cases k
  | .v i, W, S, X, h, x, k => by
    rw [E.chk] at k
    obtain ⟨n, p, rfl, k2⟩ := vn_of k
    obtain ⟨h1, h2, h3, h4⟩ := h.vr k2
    exact pe_rd h1 h2 h3 h4
  | .mv i, W, S, X, h, x, k => by
    rw [E.chk] at k
    obtain ⟨n, p, rfl, k2⟩ := vn_of k
    obtain ⟨h1, h2, h3, h4⟩ := h.vr k2
    exact pe_mvd h1 h2 h3 h4
  | .b2 o a b, W, S, X, h, x, k => by
    rw [E.chk] at k
    split at k
    · rename_i y e
      obtain ⟨p, rfl⟩ := vBin_of e
      simp only [Bool.and_eq_true, decide_eq_true_eq] at k
      rw [k.1.1]
      exact pe_b2 h.K (pe_fz (okE a h k.1.2)) (pe_fz (okE b h k.2))
    · cases k
  | .c2 o a b, W, S, X, h, x, k => by
    rw [E.chk] at k
    split at k
    · rename_i y e
      obtain ⟨p, rfl⟩ := vCmp1_of e
      simp only [Bool.and_eq_true, decide_eq_true_eq] at k
      rw [k.1.1.1]
      exact pe_c2 h.K h.un (pe_fz (okE a h k.1.1.2)) (pe_fz (okE b h k.1.2)) (behind_of (isStar_f k.2))
    · cases k
  | .c3 o o' a b c0, W, S, X, h, x, k => by
    rw [E.chk] at k
    split at k
    · rename_i y e
      obtain ⟨p, rfl⟩ := vCmp2_of e
      simp only [Bool.and_eq_true, decide_eq_true_eq] at k
      rw [k.1.1.1.1.1, k.1.1.1.1.2]
      exact pe_c3d h.K h.un (pe_fz (okE a h k.1.1.1.2)) (pe_fz (okE b h k.1.1.2)) (pe_fz (okE c0 h k.1.2)) (last_of (isStar_f k.2))
    · cases k
  | .neg a, W, S, X, h, x, k => by
    rw [E.chk] at k
    split at k
    · rename_i y e
      obtain ⟨p, rfl⟩ := vUn_of e
      simp only [Bool.and_eq_true, decide_eq_true_eq] at k
      rw [k.1]
      exact pe_negd (pe_fz (okE a h k.2))
    · cases k
  | .not a, W, S, X, h, x, k => by
    rw [E.chk] at k
    split at k
    · rename_i y e
      obtain ⟨p, rfl⟩ := vUn_of e
      simp only [Bool.and_eq_true, decide_eq_true_eq] at k
      rw [k.1]
      exact pe_ntd h.K (pe_fz (okE a h k.2))
    · cases k
  | .and es, W, S, X, h, x, k => by
    rw [E.chk] at k
    split at k
    · rename_i y e
      obtain ⟨p, rfl⟩ := vBool_of e
      simp only [Bool.and_eq_true] at k
      rw [opB_of k.1.1]
      exact okAnd es h k.1.2 (isStar_f k.2)
    · cases k
  | .or es, W, S, X, h, x, k => by
    rw [E.chk] at k
    split at k
    · rename_i y e
      obtain ⟨p, rfl⟩ := vBool_of e
      simp only [Bool.and_eq_true] at k
      rw [opB_of k.1.1]
      exact okOr es h k.1.2 (isStar_f k.2)
    · cases k
  | .ite t a b, W, S, X, h, x, k => by
    rw [E.chk] at k
    split at k
    · rename_i y e
      obtain ⟨p, rfl⟩ := vIf_of e
      simp only [Bool.and_eq_true] at k
      exact pe_ited (okT t h k.1.1) (okE a h k.1.2) (okE b h k.2)
    · cases k
  | .tup es, W, S, X, h, x, k => by
    rw [E.chk] at k
    split at k
    · rename_i y e
      obtain ⟨j, p, rfl⟩ := vTup_of e
      exact pe_tupd (okEs es h k)
    · cases k
  | .lst es, W, S, X, h, x, k => by
    rw [E.chk] at k
    split at k
    · rename_i y e
      obtain ⟨p, rfl⟩ := vLst_of e
      exact pe_lstd (okEs es h k)
    · cases k
  | .sub a b, W, S, X, h, x, k => by
    rw [E.chk] at k
    split at k
    · rename_i y e
      obtain ⟨p, rfl⟩ := vSub_of e
      simp only [Bool.and_eq_true] at k
      exact pe_subd h.K (pe_fz (okE a h k.1.1)) (pe_fz (okE b h k.1.2)) (plainIx_of (isStar_f k.2))
    · cases k
  | .osub i b, W, S, X, h, x, k => by
    rw [E.chk] at k
    split at k
    · rename_i y e
      obtain ⟨p, rfl⟩ := vSub_of e
      simp only [Bool.and_eq_true] at k
      obtain ⟨n, q, e2, k2⟩ := vn_of k.1.1
      obtain ⟨h1, h2, h3, h4⟩ := h.vr k2
      rw [e2]
      exact pe_osub h1 h2 h3 h4 (pe_fz (okE b h k.1.2)) (plainIx_of (isStar_f k.2))
    · cases k
  | .slc a lo hi, W, S, X, h, x, k => by
    rw [E.chk] at k
    split at k
    · rename_i y e
      obtain ⟨p, rfl⟩ := vSub_of e
      simp only [Bool.and_eq_true] at k
      obtain ⟨k1, k2⟩ := k
      split at k2
      · rename_i z e2
        obtain ⟨q, e3⟩ := vSlc_of e2
        rw [e3]
        simp only [Bool.and_eq_true] at k2
        exact pe_slcd h.K (pe_fz (okE a h k1)) (okOe lo h k2.1) (okOe hi h k2.2)
      · cases k2
    · cases k
  | .bf f es, W, S, X, h, x, k => by
    rw [E.chk] at k
    split at k
    · rename_i y e
      obtain ⟨p, q, rfl⟩ := vCall_of e
      simp only [Bool.and_eq_true] at k
      obtain ⟨⟨⟨k1, k2⟩, k3⟩, k4⟩ := k
      have e1 : y.1 = f.name := eq_of_beq k1
      have hg := h.gl k2
      rw [e1] at hg ⊢
      have st := Es.all_star es k3
      have k5 := okEs es h k3
      cases ey : y.2 with
      | nil => rw [ey] at k4; cases k4
      | cons a r =>
        rw [ey] at k5 st
        exact pe_bf h.K h.calm h.gu h.un hg (h.blt _ (bf_blt f)) k5 st
    · cases k
  | .isa a T, W, S, X, h, x, k => by
    rw [E.chk] at k
    split at k
    · rename_i n u w e
      obtain ⟨p, q, rfl⟩ := vCall_of e
      simp only [Bool.and_eq_true] at k
      obtain ⟨⟨⟨⟨⟨k1, k2⟩, k3⟩, k4⟩, k5⟩, k6⟩ := k
      have e1 : n = ("isinstance" : Str) := eq_of_beq k1
      have hg := h.gl k2
      split at k6
      · rename_i m e2
        obtain ⟨p2, rfl⟩ := vName_of e2
        simp only [Bool.and_eq_true] at k6
        have e3 : m = Str.ofString T := eq_of_beq k6.1
        have hg2 := h.gl k6.2
        rw [e1] at hg
        rw [e3] at hg2
        obtain ⟨hT, hT2⟩ := ty_blt k5
        have z := pe_isa (p := p) (p2 := p2) (pos := q) h.K hT hg (h.blt _ (by decide)) hg2 (h.blt _ hT2) (pe_fz (okE a h k3)) (isStar_f k4)
        rw [← e1, ← e3] at z
        exact z
      · cases k6
    · cases k
  | .mind a d, W, S, X, h, x, k => by
    rw [E.chk] at k
    split at k
    · rename_i y e
      obtain ⟨p, q, r, rfl⟩ := vMin_of e
      simp only [Bool.and_eq_true] at k
      obtain ⟨⟨⟨⟨⟨k1, k2⟩, k3⟩, k4⟩, k5⟩, k6⟩ := k
      have e1 : y.1 = ("min" : Str) := eq_of_beq k1
      have e2 : y.2.2.1 = ("default" : Str) := eq_of_beq k2
      have hg := h.gl k3
      rw [e1] at hg ⊢
      rw [e2]
      exact pe_mind h.K h.calm hg (h.blt _ (by decide)) (pe_fz (okE a h k4)) (pe_fz (okE d h k5)) (isStar_f k6)
    · cases k
  | .call n es, W, S, X, h, x, k => by
    rw [E.chk] at k
    split at k
    · rename_i y e
      obtain ⟨p, q, rfl⟩ := vCall_of e
      simp only [Bool.and_eq_true, SC.ok, Bool.not_eq_true'] at k
      obtain ⟨⟨⟨⟨k1, k2⟩, k3, _⟩, k4⟩, k5⟩ := k
      exact pe_calld h (atN_of k1) (h.gl k2) k3 (okAs es h k4) k5 (As.all_star es k4)
    · cases k
  | .callv i es, W, S, X, h, x, k => by
    rw [E.chk] at k
    split at k
    · rename_i y e
      obtain ⟨p, q, rfl⟩ := vCall_of e
      simp only [Bool.and_eq_true, Bool.not_eq_true'] at k
      obtain ⟨⟨k1, k2⟩, k3⟩ := k
      obtain ⟨h1, h2, h3, h4⟩ := h.vr k1
      exact pe_callvd h h1 h2 h3 h4 (okEs es h k2) k3 (Es.all_star es k2)
    · cases k
  | .comp it g ts e own, W, S, X, h, x, k => by
    rw [E.chk] at k
    split at k
    · rename_i y ev
      obtain ⟨p, rfl⟩ := vComp_of ev
      simp only [Bool.and_eq_true] at k
      obtain ⟨⟨⟨⟨⟨⟨⟨k1, k2⟩, k3⟩, k4⟩, k5⟩, k6⟩, k7⟩, k8⟩ := k
      have z := pe_cp (pos := p) h.calm h.nd (okIt it h k2) (h.blkOk k1) (fun s H C cl fp => okTg g (h.blk k1 s H C cl fp) k3) (fun s H C cl fp => okPts ts (h.blk k1 s H C cl fp) k4 k5) (fun s H C cl fp => pe_fz (okE e (h.blk k1 s H C cl fp) k6)) (folded_of (isStar_f k8)) (by
        rw [SC.own0_map]
        intro j hj
        simpa using List.all_eq_true.mp k7 j hj)
      rw [SC.own0_map] at z
      exact z
    · cases k
  | .pop i, W, S, X, h, x, k => by
    rw [E.chk] at k
    split at k
    · rename_i y e
      obtain ⟨p, p2, p3, rfl, e4⟩ := vMeth_of e
      simp only [Bool.and_eq_true] at k
      obtain ⟨⟨⟨k1, k2⟩, k3⟩, k4⟩ := k
      obtain ⟨h1, h2, h3, h4⟩ := h.vr k1
      have e1 : y.2.1 = ("pop" : Str) := eq_of_beq k2
      rw [e1, List.isEmpty_iff.mp k3]
      exact pe_pp h1 h2 h3 h4 (by rw [← e4]; exact k4)
    · cases k
  | .olen i, W, S, X, h, x, k => by
    rw [E.chk] at k
    split at k
    · rename_i n u e
      obtain ⟨p, q, rfl⟩ := vCall_of e
      simp only [Bool.and_eq_true] at k
      obtain ⟨⟨k1, k2⟩, k3⟩ := k
      obtain ⟨m, p2, rfl, k4⟩ := vn_of k3
      obtain ⟨h1, h2, h3, h4⟩ := h.vr k4
      have e1 : n = ("len" : Str) := eq_of_beq k1
      have hg := h.gl k2
      rw [e1] at hg
      have z := pe_olen (R := R) (W := W) (p := p) (pos := q) (p2 := p2) hg (h.blt _ (by decide)) h1 h2 h3 h4
      rw [← e1] at z
      exact z
    · cases k
  | .gcd es, W, S, X, h, x, k => by
    rw [E.chk] at k
    split at k
    · rename_i y e
      obtain ⟨p, q, rfl⟩ := vCall_of e
      simp only [Bool.and_eq_true] at k
      obtain ⟨⟨⟨⟨k1, k0⟩, k2⟩, k3⟩, k4⟩ := k
      have e1 : y.1 = ("gcd" : Str) := eq_of_beq k1
      have hg := h.gl k2
      rw [e1] at hg ⊢
      have st := Es.all_star es k3
      have k5 := okEs es h k3
      cases ey : y.2 with
      | nil => rw [ey] at k4; cases k4
      | cons a r =>
        rw [ey] at k5 st
        exact pe_gcdd hg (h.gcd k0) k5 st
    · cases k
  | .callk n ns pm es, W, S, X, h, x, k => by
    rw [E.chk] at k
    split at k
    · rename_i y e
      obtain ⟨p, q, rfl⟩ := vCallK_of e
      simp only [Bool.and_eq_true, SC.ok, Bool.not_eq_true'] at k
      obtain ⟨⟨⟨⟨⟨k1, k2⟩, k3, _⟩, k4⟩, k5⟩, k6⟩ := k
      rw [E.den]
      exact pe_callkd h (atN_of k1) (h.gl k2) k3 (by simpa using k6) (okKs es h k5) (fun xs ρ ρ' e => (Es.den_len es k5 e).trans ((kwVals_len _).trans (kwOk_len k4))) k4
    · cases k
  | .sset a, W, S, X, h, x, k => by
    rw [E.chk] at k
    split at k
    · rename_i n u e
      obtain ⟨p, q, rfl⟩ := vCall_of e
      simp only [Bool.and_eq_true] at k
      obtain ⟨⟨k1, k2⟩, k3⟩ := k
      split at k3
      · rename_i m w e2
        obtain ⟨p2, q2, rfl⟩ := vCall_of e2
        simp only [Bool.and_eq_true] at k3
        obtain ⟨⟨⟨k4, k5⟩, k6⟩, k7⟩ := k3
        have e3 : n = ("sorted" : Str) := eq_of_beq k1
        have e4 : m = ("set" : Str) := eq_of_beq k4
        have hg := h.gl k2
        have hg2 := h.gl k5
        rw [e3] at hg
        rw [e4] at hg2
        have z := pe_ssetd (p := p) (p2 := p2) (pos := q) (pos2 := q2) h.K h.calm hg (h.blt _ (by decide)) hg2 (h.blt _ (by decide)) (pe_fz (okE a h k6)) (isStar_f k7)
        rw [← e3, ← e4] at z
        rw [E.den]
        exact z
      · cases k3
    · cases k
  | .rev a, W, S, X, h, x, k => by
    rw [E.chk] at k
    split at k
    · rename_i y e
      obtain ⟨_, _, _, _, _, rfl⟩ := vRev_of e
      rw [E.den]
      exact pe_revd h.K (pe_fz (okE a h k))
    · cases k
  | .bad, W, S, X, h, x, k => by
    rw [E.den]
    exact ⟨fun _ _ _ _ _ _ ⟨_, _, _, _, z⟩ => z.elim⟩
theorem okEs : ∀ (es : Es) {W : WX} {S : SC} {X : Cx}, CxG R W G Vc S X → ∀ {xs : List Expr}, es.chk S xs = true → PA X xs (tDs R W (es.den G Vc))
  | .nil, W, S, X, h, xs, k => by
    cases xs with
    | nil => exact pa_nl
    | cons _ _ => rw [Es.chk] at k; cases k
  | .cons a es, W, S, X, h, xs, k => by
    cases xs with
    | nil => rw [Es.chk] at k; cases k
    | cons x r =>
      rw [Es.chk] at k
      simp only [Bool.and_eq_true] at k
      exact pa_cn (pe_fz (okE a h k.1.1)) (okEs es h k.1.2) (isStar_f k.2)
theorem okKs : ∀ (es : Es) {W : WX} {S : SC} {X : Cx}, CxG R W G Vc S X → ∀ {kws : List Keyword}, es.chk S (kwVals kws) = true → PK X kws (tDs R W (es.den G Vc))
  | .nil, W, S, X, h, kws, k => by
    cases kws with
    | nil => rw [Es.den]; exact pk_nl
    | cons a _ => obtain ⟨_, _, _⟩ := a; rw [kwVals, Es.chk] at k; cases k
  | .cons a es, W, S, X, h, kws, k => by
    cases kws with
    | nil => rw [kwVals, Es.chk] at k; cases k
    | cons x r =>
      obtain ⟨nm, e, kp⟩ := x
      rw [kwVals, Es.chk] at k
      simp only [Bool.and_eq_true] at k
      rw [Es.den]
      exact pk_cn (pe_fz (okE a h k.1.1)) (okKs es h k.1.2)
theorem okAnd : ∀ (es : Es) {W : WX} {S : SC} {X : Cx}, CxG R W G Vc S X → ∀ {xs : List Expr} {p : Pos}, es.chk S xs = true → xs.isEmpty = false → PE X (.BoolOp .And xs p) (tR R W (es.andD G Vc))
  | .nil, W, S, X, h, xs, p, k, n => by
    cases xs with
    | nil => cases n
    | cons _ _ => rw [Es.chk] at k; cases k
  | .cons a .nil, W, S, X, h, xs, p, k, n => by
    cases xs with
    | nil => cases n
    | cons x r =>
      rw [Es.chk] at k
      simp only [Bool.and_eq_true] at k
      cases r with
      | nil => exact pe_and1d (okE a h k.1.1)
      | cons _ _ => have k2 := k.1.2; rw [Es.chk] at k2; cases k2
  | .cons a (.cons b es), W, S, X, h, xs, p, k, n => by
    cases xs with
    | nil => cases n
    | cons x r =>
      rw [Es.chk] at k
      simp only [Bool.and_eq_true] at k
      cases r with
      | nil => have k2 := k.1.2; rw [Es.chk] at k2; cases k2
      | cons y r => exact pe_andd h.K (pe_fz (okE a h k.1.1)) (okAnd (.cons b es) h k.1.2 rfl)
theorem okOr : ∀ (es : Es) {W : WX} {S : SC} {X : Cx}, CxG R W G Vc S X → ∀ {xs : List Expr} {p : Pos}, es.chk S xs = true → xs.isEmpty = false → PE X (.BoolOp .Or xs p) (tR R W (es.orD G Vc))
  | .nil, W, S, X, h, xs, p, k, n => by
    cases xs with
    | nil => cases n
    | cons _ _ => rw [Es.chk] at k; cases k
  | .cons a .nil, W, S, X, h, xs, p, k, n => by
    cases xs with
    | nil => cases n
    | cons x r =>
      rw [Es.chk] at k
      simp only [Bool.and_eq_true] at k
      cases r with
      | nil => exact pe_and1d (okE a h k.1.1)
      | cons _ _ => have k2 := k.1.2; rw [Es.chk] at k2; cases k2
  | .cons a (.cons b es), W, S, X, h, xs, p, k, n => by
    cases xs with
    | nil => cases n
    | cons x r =>
      rw [Es.chk] at k
      simp only [Bool.and_eq_true] at k
      cases r with
      | nil => have k2 := k.1.2; rw [Es.chk] at k2; cases k2
      | cons y r => exact pe_ord h.K (pe_fz (okE a h k.1.1)) (okOr (.cons b es) h k.1.2 rfl)
theorem okAs : ∀ (es : As) {W : WX} {S : SC} {X : Cx}, CxG R W G Vc S X → ∀ {xs : List Expr}, es.chk S xs = true → PA X xs (tAs R W (es.den G Vc))
  | .nil, W, S, X, h, xs, k => by
    cases xs with
    | nil => exact pas_nl
    | cons _ _ => rw [As.chk] at k; cases k
  | .e a es, W, S, X, h, xs, k => by
    cases xs with
    | nil => rw [As.chk] at k; cases k
    | cons x r =>
      rw [As.chk] at k
      simp only [Bool.and_eq_true] at k
      exact pas_e (pe_fz (okE a h k.1.1)) (okAs es h k.1.2) (isStar_f k.2)
  | .io i es, W, S, X, h, xs, k => by
    cases xs with
    | nil => rw [As.chk] at k; cases k
    | cons x r =>
      rw [As.chk] at k
      simp only [Bool.and_eq_true] at k
      obtain ⟨n, p, rfl, k2⟩ := vn_of k.1
      obtain ⟨h1, h2, h3, h4⟩ := h.vr k2
      exact pas_io h1 h2 h3 h4 (okAs es h k.2)
theorem okOe : ∀ (o : Oe) {W : WX} {S : SC} {X : Cx}, CxG R W G Vc S X → ∀ {x : Option Expr}, o.chk S x = true → PO X x (tO R W (o.den G Vc))
  | .none, W, S, X, h, x, k => by
    cases x with
    | none => exact po_no
    | some _ => rw [Oe.chk] at k; cases k
  | .some a, W, S, X, h, x, k => by
    cases x with
    | none => rw [Oe.chk] at k; cases k
    | some x =>
      rw [Oe.chk] at k
      exact po_so (pe_fz (okE a h k))
theorem okT : ∀ (t : T) {W : WX} {S : SC} {X : Cx}, CxG R W G Vc S X → ∀ {x : Expr}, t.chk S x = true → PT X x (tT R W (t.den G Vc))
  | .e a, W, S, X, h, x, k => by
    rw [T.chk] at k
    simp only [Bool.and_eq_true] at k
    exact pt_tru h.K (pe_fz (okE a h k.2)) (plainT_of k.1)
  | .c2 o a b, W, S, X, h, x, k => by
    rw [T.chk] at k
    split at k
    · rename_i y e
      obtain ⟨p, rfl⟩ := vCmp1_of e
      simp only [Bool.and_eq_true, decide_eq_true_eq] at k
      rw [k.1.1.1]
      exact pt_c2 h.K h.un (pe_fz (okE a h k.1.1.2)) (pe_fz (okE b h k.1.2)) (behind_of (isStar_f k.2))
    · cases k
  | .c3 o o' a b c0, W, S, X, h, x, k => by
    rw [T.chk] at k
    split at k
    · rename_i y e
      obtain ⟨p, rfl⟩ := vCmp2_of e
      simp only [Bool.and_eq_true, decide_eq_true_eq] at k
      rw [k.1.1.1.1.1, k.1.1.1.1.2]
      exact pt_c3d h.K h.un (pe_fz (okE a h k.1.1.1.2)) (pe_fz (okE b h k.1.1.2)) (pe_fz (okE c0 h k.1.2)) (last_of (isStar_f k.2))
    · cases k
  | .not t, W, S, X, h, x, k => by
    rw [T.chk] at k
    split at k
    · rename_i y e
      obtain ⟨p, rfl⟩ := vUn_of e
      simp only [Bool.and_eq_true, decide_eq_true_eq] at k
      rw [k.1]
      exact pt_nt (okT t h k.2)
    · cases k
  | .and ts, W, S, X, h, x, k => by
    rw [T.chk] at k
    split at k
    · rename_i y e
      obtain ⟨p, rfl⟩ := vBool_of e
      simp only [Bool.and_eq_true] at k
      rw [opB_of k.1.1]
      exact (okAll ts h k.1.2 (isStar_f k.2)).pt
    · cases k
  | .or ts, W, S, X, h, x, k => by
    rw [T.chk] at k
    split at k
    · rename_i y e
      obtain ⟨p, rfl⟩ := vBool_of e
      simp only [Bool.and_eq_true] at k
      rw [opB_of k.1.1]
      exact (okAny ts h k.1.2 (isStar_f k.2)).pt
    · cases k
  | .onil neg i, W, S, X, h, x, k => by
    rw [T.chk] at k
    split at k
    · rename_i y e
      obtain ⟨p, rfl⟩ := vCmp1_of e
      simp only [Bool.and_eq_true, decide_eq_true_eq] at k
      obtain ⟨⟨k1, k2⟩, k3⟩ := k
      obtain ⟨n, q, e2, k4⟩ := vn_of k2
      obtain ⟨h1, h2, h3, h4⟩ := h.vr k4
      split at k3
      · rename_i e3
        obtain ⟨p3, e4⟩ := vLst_of e3
        rw [k1, e2, e4]
        exact pt_onil h.K h.un h1 h2 h3 h4
      · cases k3
    · cases k
theorem okAll : ∀ (ts : Ts) {W : WX} {S : SC} {X : Cx}, CxG R W G Vc S X → ∀ {xs : List Expr} {p : Pos}, ts.chk S xs = true → xs.isEmpty = false → PW X (.BoolOp .And xs p) (tT R W (ts.allD G Vc))
  | .nil, W, S, X, h, xs, p, k, n => by
    cases xs with
    | nil => cases n
    | cons _ _ => rw [Ts.chk] at k; cases k
  | .cons a .nil, W, S, X, h, xs, p, k, n => by
    cases xs with
    | nil => cases n
    | cons x r =>
      rw [Ts.chk] at k
      simp only [Bool.and_eq_true] at k
      cases r with
      | nil => exact pw_an1 (okT a h k.1)
      | cons _ _ => have k2 := k.2; rw [Ts.chk] at k2; cases k2
  | .cons a (.cons b es), W, S, X, h, xs, p, k, n => by
    cases xs with
    | nil => cases n
    | cons x r =>
      rw [Ts.chk] at k
      simp only [Bool.and_eq_true] at k
      cases r with
      | nil => have k2 := k.2; rw [Ts.chk] at k2; cases k2
      | cons y r => exact pw_an (okT a h k.1) (okAll (.cons b es) h k.2 rfl)
theorem okAny : ∀ (ts : Ts) {W : WX} {S : SC} {X : Cx}, CxG R W G Vc S X → ∀ {xs : List Expr} {p : Pos}, ts.chk S xs = true → xs.isEmpty = false → PW X (.BoolOp .Or xs p) (tT R W (ts.anyD G Vc))
  | .nil, W, S, X, h, xs, p, k, n => by
    cases xs with
    | nil => cases n
    | cons _ _ => rw [Ts.chk] at k; cases k
  | .cons a .nil, W, S, X, h, xs, p, k, n => by
    cases xs with
    | nil => cases n
    | cons x r =>
      rw [Ts.chk] at k
      simp only [Bool.and_eq_true] at k
      cases r with
      | nil => exact pw_or1' (okT a h k.1)
      | cons _ _ => have k2 := k.2; rw [Ts.chk] at k2; cases k2
  | .cons a (.cons b es), W, S, X, h, xs, p, k, n => by
    cases xs with
    | nil => cases n
    | cons x r =>
      rw [Ts.chk] at k
      simp only [Bool.and_eq_true] at k
      cases r with
      | nil => have k2 := k.2; rw [Ts.chk] at k2; cases k2
      | cons y r => exact pw_or' (okT a h k.1) (okAny (.cons b es) h k.2 rfl)
theorem okPts : ∀ (ts : Ts) {W : WX} {S : SC} {X : Cx}, CxG R W G Vc S X → ∀ {xs : List Expr}, ts.chk S xs = true → (match xs with | [] => true | [_] => true | _ => false) = true → PTs X xs (tT R W (ts.allD G Vc))
  | .nil, W, S, X, h, xs, k, n => by
    cases xs with
    | nil => exact pts_nl
    | cons _ _ => rw [Ts.chk] at k; cases k
  | .cons a ts, W, S, X, h, xs, k, n => by
    cases xs with
    | nil => rw [Ts.chk] at k; cases k
    | cons x r =>
      rw [Ts.chk] at k
      simp only [Bool.and_eq_true] at k
      cases r with
      | nil =>
        cases ts with
        | nil => exact pts_on (okT a h k.1)
        | cons _ _ => have k2 := k.2; rw [Ts.chk] at k2; cases k2
      | cons _ _ => cases n
theorem okIt : ∀ (it : It) {W : WX} {S : SC} {X : Cx}, CxG R W G Vc S X → ∀ {tg x : Expr}, it.chk S tg x = true → PI X tg x (tIt R W (it.den G Vc))
  | .seq a, W, S, X, h, tg, x, k => by
    rw [It.chk] at k
    exact pi_seqd h.K (pe_fz (okE a h k))
  | .r1 a, W, S, X, h, tg, x, k => by
    rw [It.chk] at k
    split at k
    · rename_i n u e
      obtain ⟨p, q, rfl⟩ := vCall_of e
      simp only [Bool.and_eq_true] at k
      obtain ⟨⟨⟨k1, k2⟩, k3⟩, k4⟩ := k
      have e1 : n = ("range" : Str) := eq_of_beq k1
      have hg := h.gl k2
      rw [e1] at hg
      have z := pi_r1d (p := p) (pos := q) (tg := tg) hg (h.blt _ (by decide)) (pe_fz (okE a h k3)) (isStar_f k4)
      rw [← e1] at z
      exact z
    · cases k
  | .r2 a b, W, S, X, h, tg, x, k => by
    rw [It.chk] at k
    split at k
    · rename_i n u w e
      obtain ⟨p, q, rfl⟩ := vCall_of e
      simp only [Bool.and_eq_true] at k
      obtain ⟨⟨⟨⟨⟨k1, k2⟩, k3⟩, k4⟩, k5⟩, k6⟩ := k
      have e1 : n = ("range" : Str) := eq_of_beq k1
      have hg := h.gl k2
      rw [e1] at hg
      have z := pi_r2d (p := p) (pos := q) (tg := tg) hg (h.blt _ (by decide)) (pe_fz (okE a h k3)) (pe_fz (okE b h k5)) (isStar_f k4) (isStar_f k6)
      rw [← e1] at z
      exact z
    · cases k
  | .r3 a b c0, W, S, X, h, tg, x, k => by
    rw [It.chk] at k
    split at k
    · rename_i n u w v e
      obtain ⟨p, q, rfl⟩ := vCall_of e
      simp only [Bool.and_eq_true] at k
      obtain ⟨⟨⟨⟨⟨⟨⟨k1, k2⟩, k3⟩, k4⟩, k5⟩, k6⟩, k7⟩, k8⟩ := k
      have e1 : n = ("range" : Str) := eq_of_beq k1
      have hg := h.gl k2
      rw [e1] at hg
      have z := pi_r3d (p := p) (pos := q) (tg := tg) hg (h.blt _ (by decide)) (pe_fz (okE a h k3)) (pe_fz (okE b h k5)) (pe_fz (okE c0 h k7)) (isStar_f k4) (isStar_f k6) (isStar_f k8)
      rw [← e1] at z
      exact z
    · cases k
  | .enum a, W, S, X, h, tg, x, k => by
    rw [It.chk] at k
    split at k
    · rename_i n u e
      obtain ⟨p, q, rfl⟩ := vCall_of e
      simp only [Bool.and_eq_true] at k
      obtain ⟨⟨⟨⟨k1, k2⟩, k3⟩, k4⟩, k5⟩ := k
      have e1 : n = ("enumerate" : Str) := eq_of_beq k1
      have hg := h.gl k2
      rw [e1] at hg
      obtain ⟨es, e5⟩ := Option.isSome_iff_exists.mp k5
      obtain ⟨kk, tp, rfl⟩ := vTup_of e5
      have z := pi_enumd (p := p) (pos := q) (elts := es) (kk := kk) (tpos := tp) h.K hg (h.blt _ (by decide)) (pe_fz (okE a h k3)) (isStar_f k4)
      rw [← e1] at z
      exact z
    · cases k
  | .zip a b, W, S, X, h, tg, x, k => by
    rw [It.chk] at k
    split at k
    · rename_i n u w e
      obtain ⟨p, q, rfl⟩ := vCall_of e
      simp only [Bool.and_eq_true] at k
      obtain ⟨⟨⟨⟨⟨⟨k1, k2⟩, k3⟩, k4⟩, k5⟩, k6⟩, k7⟩ := k
      have e1 : n = ("zip" : Str) := eq_of_beq k1
      have hg := h.gl k2
      rw [e1] at hg
      obtain ⟨es, e5⟩ := Option.isSome_iff_exists.mp k7
      obtain ⟨kk, tp, rfl⟩ := vTup_of e5
      have z := pi_zipd (p := p) (pos := q) (elts := es) (kk := kk) (tpos := tp) h.K hg (h.blt _ (by decide)) (pe_fz (okE a h k3)) (pe_fz (okE b h k5)) (isStar_f k4) (isStar_f k6)
      rw [← e1] at z
      exact z
    · cases k
theorem okTg : ∀ (g : Tg) {W : WX} {S : SC} {X : Cx}, CxG R W G Vc S X → ∀ {x : Expr}, g.chk S x = true → PG X x (tTg R W g.ns (g.den G Vc))
  | .nm i, W, S, X, h, x, k => by
    rw [Tg.chk] at k
    split at k
    · rename_i n e
      obtain ⟨p, rfl⟩ := vName_of e
      obtain ⟨h1, h2, h3⟩ := h.lo k
      exact pg_nm h.nd h1 h2 h3
    · cases k
  | .sub i a, W, S, X, h, x, k => by
    rw [Tg.chk] at k
    split at k
    · rename_i y e
      obtain ⟨p, rfl⟩ := vSub_of e
      simp only [Bool.and_eq_true] at k
      obtain ⟨n, q, e2, k2⟩ := vn_of k.1.1
      obtain ⟨h1, h2, h3, h4⟩ := h.vr k2
      rw [e2]
      exact pg_sb h1 h2 h3 h4 (pe_fz (okE a h k.1.2)) (assign_sub_of (isStar_f k.2))
    · cases k
  | .tup gs, W, S, X, h, x, k => by
    rw [Tg.chk] at k
    split at k
    · rename_i y e
      obtain ⟨j, p, rfl⟩ := vTup_of e
      obtain ⟨k1, k2⟩ := Tgs.all_star gs k
      refine pg_tp (gs := fun xs => if xs.length = gs.len then gs.den G Vc xs else mbad) h.K h.calm (PGs.imp (okTgs gs h k) fun vs σ H Q ⟨C, L, ρ, ds, E, r, z⟩ => ⟨C, L, ρ, ds, E, r, ?_⟩) k1 fun ds ρ z => ?_
      · by_cases hl : ds.length = gs.len
        · simp only [if_pos hl] at z
          exact z
        · simp only [if_neg hl] at z
          exact z.elim
      · by_cases hl : ds.length = gs.len
        · rw [hl, k2]
        · simp only [if_neg hl] at z
          exact z.elim
    · cases k
theorem okTgs : ∀ (gs : Tgs) {W : WX} {S : SC} {X : Cx}, CxG R W G Vc S X → ∀ {xs : List Expr}, gs.chk S xs = true → PGs X xs (tTgs R W gs.ns (gs.den G Vc))
  | .nil, W, S, X, h, xs, k => by
    cases xs with
    | nil =>
      refine PGs.imp (pgs_nl (R := R) (W := W)) fun vs σ H Q ⟨C, L, ρ, ds, E, r, z⟩ => ⟨C, L, ρ, ds, E, r, ?_⟩
      cases ds with
      | nil => exact z
      | cons _ _ => exact z.elim
    | cons _ _ => rw [Tgs.chk] at k; cases k
  | .cons a gs, W, S, X, h, xs, k => by
    cases xs with
    | nil => rw [Tgs.chk] at k; cases k
    | cons x r =>
      rw [Tgs.chk] at k
      simp only [Bool.and_eq_true] at k
      refine PGs.imp (pgs_cn (R := R) (W := W) (okTg a h k.1.1) (okTgs gs h k.1.2) (isStar_f k.2)) fun vs σ H Q ⟨C, L, ρ, ds, E, r, z⟩ => ⟨C, L, ρ, ds, E, r, ?_⟩
      cases ds with
      | nil => exact z.elim
      | cons _ _ => exact z
end
end
end Pu
/-! Pu, part 15b: a, b, c = x, y, z. -/
namespace Pu
open PySem PySem.Spec PyProof.Rows L2 RZ
section
variable {R : RC} {W : WX} {X : Cx} {a b c : Expr} {pos : Pos}
theorem ps_pr3 {i j l : Nat} {x y z : Str} {ms : M (List D)} {px py pz pt pt2 : Pos} {kt k2 : Nat} (hc : X.calm = true) (hN : X.N.Nodup) (hi : X.N[i]? = some x) (hj : X.N[j]? = some y) (hl : X.N[l]? = some z) (hij : i ≠ j) (hil : i ≠ l) (hjl : j ≠ l)
    (hx : X.env.scope.names.lookup x = some .local) (hy : X.env.scope.names.lookup y = some .local) (hz : X.env.scope.names.lookup z = some .local) (ha : PA X [a, b, c] (tDs R W ms))
    (hw : swappedStores [.Tuple [.Name x px, .Name y py, .Name z pz] kt pt] (.Tuple [a, b, c] k2 pt2) X.env = pure (some [x, y, z])) :
    PS X (.Assign [.Tuple [.Name x px, .Name y py, .Name z pz] kt pt] (.Tuple [a, b, c] k2 pt2) pos) (tS R W fun ρ => toFl (mbind ms (fun xs => match xs with
      | [x, y, z] => mbind (st i (.im x)) fun _ => mbind (st j (.im y)) fun _ => st l (.im z)
      | _ => mbad) ρ) fun _ ρ' => .nx ρ') :=
  PS.imp (ps_par3 hc hN hi hj hl hij hil hjl hx hy hz ha hw) fun F σ H ⟨C, L, ρ, E, h⟩ => by
    refine ⟨C, L, ρ, E, (FlK.bind2 (σ := σ) h).mono fun xs ρ1 L1 H1 E1 S1 k vs hv => ?_⟩
    match xs, hv, k with
    | [], _, k => exact k.elim
    | [_], _, k => exact k.elim
    | [_, _], _, k => exact k.elim
    | _ :: _ :: _ :: _ :: _, _, k => exact k.elim
    | [d1, d2, d3], hv, k =>
      obtain ⟨u, r1, rfl, q1, h1⟩ := hv
      obtain ⟨v, r2, rfl, q2, h2⟩ := h1
      obtain ⟨w, r3, rfl, q3, h3⟩ := h2
      have e3 : r3 = [] := h3
      subst e3
      refine ⟨u, v, w, rfl, ?_⟩
      have step : ∀ {i : Nat} {d : D} {v : V} {ρ : Env} {σ : L2.St} {f : Unit → M Unit} {D' : Ends}, EnvOk R C L1 H1 ρ σ → Rep R (vis C L1 H1) d v → FlK R W (toFl (mbind (st i (.im d)) f ρ) fun _ ρ' => .nx ρ') C L1 H1 D' → ∃ ρ', EnvOk R C L1 H1 ρ' (σ.set i (some v)) ∧ FlK R W (toFl (f () ρ') fun _ ρ' => .nx ρ') C L1 H1 D' := fun {i d v ρ σ f D'} E0 rv k => by
        unfold mbind at k
        cases q : st i (.im d) ρ with
        | bad => rw [q] at k; exact k.elim
        | exc x ρ' =>
          exfalso
          unfold st at q
          split at q <;> cases q
        | ok a ρ3 =>
          obtain ⟨ρ'', e1, e2⟩ := run_st (i := i) (r := .im d) (ρ := ρ) (by rw [q]; trivial)
          rw [q] at k e1
          cases e1
          exact ⟨_, by rw [e2]; exact E0.store i v (.im d) rv, k⟩
      obtain ⟨ρ2, E2, k2⟩ := step (v := u) E1 q1 k
      obtain ⟨ρ3, E3, k3⟩ := step (v := v) E2 q2 k2
      have k3' : FlK R W (toFl (mbind (st l (.im d3)) (fun _ => mret ()) ρ3) fun _ ρ' => .nx ρ') C L1 H1 F := by
        unfold mbind
        have k3 : FlK R W (toFl (st l (.im d3) ρ3) fun _ ρ' => .nx ρ') C L1 H1 F := k3
        cases q : st l (.im d3) ρ3 with
        | bad => rw [q] at k3; exact k3.elim
        | exc x ρ' => rw [q] at k3; exact k3
        | ok a ρ4 => rw [q] at k3; exact k3
      obtain ⟨ρ4, E4, k4⟩ := step (v := w) E3 q3 k3'
      exact k4 _ L1 H1 E4 (.refl _ _ _)
end
end Pu
/-! Pu, part 20: a checked statement does what its IR says. -/
namespace Pu
open PySem PySem.Spec PyProof.Rows L2

theorem vAsg_of {x : Stmt} {y} (h : vAsg x = some y) : ∃ p, x = .Assign [y.1] y.2.1 p ∧ y.2.2 = p.line := by
  unfold vAsg at h; split at h
  · cases h; exact ⟨_, rfl, rfl⟩
  · cases h
theorem vPar_of {s : Stmt} {x y : Str} {a b : Expr} {l : Bool} (h : vPar s = some (x, y, a, b, l)) : ∃ px py kt pt k2 pt2 p, s = .Assign [.Tuple [.Name x px, .Name y py] kt pt] (.Tuple [a, b] k2 pt2) p ∧ l = (py.line == px.line) := by
  unfold vPar at h; split at h
  · cases h; exact ⟨_, _, _, _, _, _, _, rfl, rfl⟩
  · cases h
theorem vPar3_of {s : Stmt} {x y z : Str} {a b c : Expr} {l : Bool} (h : vPar3 s = some (x, y, z, a, b, c, l)) : ∃ px py pz kt pt k2 pt2 p, s = .Assign [.Tuple [.Name x px, .Name y py, .Name z pz] kt pt] (.Tuple [a, b, c] k2 pt2) p ∧ l = (py.line == px.line && pz.line == px.line) := by
  unfold vPar3 at h; split at h
  · cases h; exact ⟨_, _, _, _, _, _, _, _, rfl, rfl⟩
  · cases h
theorem vAug_of {x : Stmt} {y} (h : vAug x = some y) : ∃ p, x = .AugAssign y.1 y.2.1 y.2.2 p := by
  unfold vAug at h; split at h
  · cases h; exact ⟨_, rfl⟩
  · cases h
theorem vEx_of {x : Stmt} {y} (h : vEx x = some y) : ∃ p, x = .Expr y p := by
  unfold vEx at h; split at h
  · cases h; exact ⟨_, rfl⟩
  · cases h
theorem vRet_of {x : Stmt} {y} (h : vRet x = some y) : ∃ p, x = .Return y p := by
  unfold vRet at h; split at h
  · cases h; exact ⟨_, rfl⟩
  · cases h
theorem vIfS_of {x : Stmt} {y} (h : vIfS x = some y) : ∃ p, x = .If y.1 y.2.1 y.2.2 p := by
  unfold vIfS at h; split at h
  · cases h; exact ⟨_, rfl⟩
  · cases h
theorem vFor_of {x : Stmt} {y} (h : vFor x = some y) : ∃ p, x = .For y.1 y.2.1 y.2.2 [] p := by
  unfold vFor at h; split at h
  · cases h; exact ⟨_, rfl⟩
  · cases h
theorem vWhile_of {x : Stmt} {y} (h : vWhile x = some y) : ∃ p, x = .While y.1 y.2 [] p := by
  unfold vWhile at h; split at h
  · cases h; exact ⟨_, rfl⟩
  · cases h
theorem swapT {tg e : Expr} {env : PySem.Env} (h : (isTupE tg && isTupE e) = false) : swappedStores [tg] e env = pure none := by
  cases tg <;> cases e <;> first | rfl | cases h
theorem fm_lt {α β : Type} {f : α → Option β} : ∀ {xs : List α}, (xs.any fun x => (f x).isNone) = true → (xs.filterMap f).length < xs.length
  | [], h => by cases h
  | x :: xs, h => by
    have le := List.length_filterMap_le f xs
    rw [List.any_cons, Bool.or_eq_true] at h
    rw [List.filterMap_cons, List.length_cons]
    cases q : f x with
    | none => show (xs.filterMap f).length < _; omega
    | some y =>
      show (y :: xs.filterMap f).length < _
      rw [List.length_cons]
      rcases h with h | h
      · rw [q] at h; cases h
      · have := fm_lt (f := f) h; omega
theorem swapN {tg e : Expr} {env : PySem.Env} (h : noSwap env.scope tg = true) : swappedStores [tg] e env = pure none := by
  unfold noSwap at h
  split at h
  · rename_i ts kt pt
    cases e with
    | Tuple vs k2 p2 =>
      unfold swappedStores
      simp only []
      split
      · rfl
      · split
        · rfl
        · split
          · rfl
          · rename_i c
            refine absurd ?_ c
            rw [Bool.or_eq_true]
            left
            rw [bne_iff_ne]
            refine Nat.ne_of_lt (fm_lt ?_)
            rw [List.any_eq_true] at h ⊢
            obtain ⟨x, hx, hn⟩ := h
            refine ⟨x, hx, ?_⟩
            cases x with
            | Name y py =>
              have hn : (!lcB (env.scope.names.lookup y)) = true := hn
              have ne : ¬ (env.kindOf y == some .local && py.line == (Option.map (fun x => x.pos.line) ts.head?).getD 0) = true := fun z => by
                rw [Bool.and_eq_true] at z
                have e : env.scope.names.lookup y = some .local := eq_of_beq z.1
                rw [e] at hn
                cases hn
              simp only [if_neg ne]
              rfl
            | _ => rfl
    | _ => rfl
  · cases h
theorem isComp_of {e : E} (h : e.isComp = true) : ∃ it g ts m own, e = .comp it g ts m own := by
  cases e <;> first | (cases h; done) | exact ⟨_, _, _, _, _, rfl⟩
theorem cpLine_of {t v : Expr} {y : Str} {l : Bool} {sc : Scope} (h : cpLine t v = some (y, l, sc)) : ∃ py elt gs pos, t = .Name y py ∧ v = .ListComp elt gs sc pos ∧ l = (py.line == pos.line) := by
  unfold cpLine at h; split at h
  · cases h; exact ⟨_, _, _, _, rfl, rfl, rfl⟩
  · cases h
theorem swapCell {elt : Expr} {gs : List Comprehension} {sc : Scope} {pos : Pos} {y : Str} {py : Pos} {l : Nat} {env : PySem.Env} (h : env.kindOf y = some .cell) : swapsWith (.ListComp elt gs sc pos) (some (.Name y py)) l env = pure false := by
  show pure (_ && (env.kindOf y == some .local) && _ && _) = pure false
  rw [h, show ((some NameKind.cell : Option NameKind) == some .local) = false from by decide, Bool.and_false, Bool.false_and, Bool.false_and]
theorem swapLoc {elt : Expr} {gs : List Comprehension} {sc : Scope} {pos : Pos} {y : Str} {py : Pos} {l : Nat} {env : PySem.Env} (h : env.kindOf y = some .local) (hb : env.blockKind = .function) (hl : (py.line == pos.line) = true)
    (ho : (sc.names.any fun (n, k) => n == y && (k == .local || k == .cell)) = false) : swapsWith (.ListComp elt gs sc pos) (some (.Name y py)) l env = pure true := by
  show pure ((env.blockKind == .function) && (env.kindOf y == some .local) && (py.line == pos.line) && !(sc.names.any fun (n, k) => n == y && (k == .local || k == .cell))) = pure true
  rw [h, hb, hl, ho]
  rfl
section
variable {R : RC} {G : FT} {Vc : CT} {fu : Nat}
theorem CxG.bk {W : WX} {Z : SC} {X : Cx} (h : CxG R W G Vc Z X) : X.env.blockKind = .function := by
  unfold Env.blockKind
  rw [h.sc, h.fk]
  rfl
theorem star_none {e : Expr} (h : isStar e = false) : (match e with | .Starred .. => true | _ => false) = false := by
  cases e <;> first | rfl | cases h
theorem swapPar {n m : Str} {px py pt pt2 : Pos} {kt k2 : Nat} {u w : Expr} {env : PySem.Env} (hb : env.blockKind = .function) (h1 : env.kindOf n = some .local) (h2 : env.kindOf m = some .local) (hl : (py.line == px.line) = true) (ne : (n == m) = false) (s1 : isStar u = false) (s2 : isStar w = false)
    (f1 : ([u, w].all (foldedForSure 8)) = false) (f2 : ([u, w].all (constantsAlone 8)) = false) : swappedStores [.Tuple [.Name n px, .Name m py] kt pt] (.Tuple [u, w] k2 pt2) env = pure (some [n, m]) := by
  have hl2 : py.line = px.line := eq_of_beq hl
  have ne2 : n ≠ m := fun z => by rw [z] at ne; simp at ne
  have ne3 : (m == n) = false := by
    rw [beq_eq_false_iff_ne]
    exact fun z => ne2 z.symm
  have e1 : (if (env.kindOf n == some .local && px.line == (Expr.Name n px).pos.line) = true then some n else none) = some n := by
    show (if (env.kindOf n == some .local && px.line == px.line) = true then some n else none) = some n
    rw [h1, beq_self_eq_true px.line]
    rfl
  have e2 : (if (env.kindOf m == some .local && py.line == (Expr.Name n px).pos.line) = true then some m else none) = some m := by
    show (if (env.kindOf m == some .local && py.line == px.line) = true then some m else none) = some m
    rw [h2, hl]
    rfl
  have e3 : ([n, m] : List Str).eraseDups = [n, m] := by
    rw [List.eraseDups_cons]
    simp [ne3, List.eraseDups_cons]
  have s3 : ∀ f : Expr → Bool, (∀ e, isStar e = false → f e = false) → [u, w].any f = false := fun f hf => by
    rw [List.any_cons, List.any_cons, hf _ s1, hf _ s2]
    rfl
  unfold swappedStores
  simp only []
  rw [s3 _ (fun e he => by cases e <;> first | rfl | cases he), f1, f2]
  simp only [List.filterMap_cons, List.filterMap_nil, hb, List.length_cons, List.length_nil, List.head?_cons, Option.map_some, Option.getD_some]
  simp only [h1, h2, hl2, show (Expr.Name n px).pos = px from rfl, beq_self_eq_true, Bool.and_true, if_true, e3]
  rfl
theorem swapPar3 {n m o : Str} {px py pz pt pt2 : Pos} {kt k2 : Nat} {u w v : Expr} {env : PySem.Env} (hb : env.blockKind = .function) (h1 : env.kindOf n = some .local) (h2 : env.kindOf m = some .local) (h3 : env.kindOf o = some .local) (hl : (py.line == px.line && pz.line == px.line) = true) (ne : (n == m) = false) (ne' : (n == o) = false) (ne'' : (m == o) = false)
    (ss : ([u, w, v].all fun e => !isStar e) = true) (f1 : ([u, w, v].all (foldedForSure 8)) = false) (f2 : ([u, w, v].all (constantsAlone 8)) = false) : swappedStores [.Tuple [.Name n px, .Name m py, .Name o pz] kt pt] (.Tuple [u, w, v] k2 pt2) env = pure (some [n, m, o]) := by
  rw [Bool.and_eq_true] at hl
  have hl2 : py.line = px.line := eq_of_beq hl.1
  have hl3 : pz.line = px.line := eq_of_beq hl.2
  have sy : ∀ {a b : Str}, (a == b) = false → (b == a) = false := fun {a b} h => by
    rw [beq_eq_false_iff_ne] at h ⊢
    exact fun z => h z.symm
  have e3 : ([n, m, o] : List Str).eraseDups = [n, m, o] := by
    rw [List.eraseDups_cons]
    simp [sy ne, sy ne', sy ne'', List.eraseDups_cons]
  simp only [List.all_cons, List.all_nil, Bool.and_true, Bool.and_eq_true, Bool.not_eq_true'] at ss
  have s3 : ∀ f : Expr → Bool, (∀ e, isStar e = false → f e = false) → [u, w, v].any f = false := fun f hf => by
    rw [List.any_cons, List.any_cons, List.any_cons, hf _ ss.1, hf _ ss.2.1, hf _ ss.2.2]
    rfl
  unfold swappedStores
  simp only []
  rw [s3 _ (fun e he => by cases e <;> first | rfl | cases he), f1, f2]
  simp only [List.filterMap_cons, List.filterMap_nil, hb, List.length_cons, List.length_nil, List.head?_cons, Option.map_some, Option.getD_some]
  simp only [h1, h2, h3, hl2, hl3, show (Expr.Name n px).pos = px from rfl, beq_self_eq_true, Bool.and_true, if_true, e3]
  rfl
mutual
theorem okS : ∀ (s : S) {W : WX} {Z : SC} {X : Cx}, CxG R W G Vc Z X → PassesOwn (model X.prog X.w) X.A X.env X.xe → ∀ {x : Stmt}, s.chk Z x = true → PS X x (tS R W (s.den G Vc fu))
  | .asg g a, W, Z, X, h, hp, x, k => by
    rw [S.chk] at k
    split at k
    · rename_i t v l e
      obtain ⟨p, rfl, el⟩ := vAsg_of e
      simp only [Bool.and_eq_true, Bool.not_eq_true', Bool.or_eq_true] at k
      obtain ⟨⟨⟨⟨k1, k2⟩, k3⟩, k4⟩, k5⟩ := k
      have hg := okTg g h k1
      have he := okE a h k2
      rcases k5 with k5 | k5
      · refine ps_as he hg (swaps_of k5) ?_ k3
        rcases k4 with k4 | k4
        · exact swapT k4
        · exact swapN (by rw [h.sc]; exact k4)
      · split at k5
        · rename_i i y l2 sc e2
          obtain ⟨py, elt, gs, pos, e3, e4, e5⟩ := cpLine_of e2
          have e3 : t = .Name y py := e3
          have e4 : v = .ListComp elt gs sc pos := e4
          subst e3 e4
          rw [Tg.chk] at k1
          have k1 : Z.lo i y = true := k1
          obtain ⟨h1, h2, h3⟩ := h.lo k1
          simp only [Bool.or_eq_true, Bool.and_eq_true, Bool.not_eq_true'] at k5
          rcases k5 with ⟨⟨⟨k6, k7⟩, k8⟩, k9⟩ | k6
          · obtain ⟨it, g2, ts, m, own, rfl⟩ := isComp_of k9
            have lk := lc_of' k6
            rw [← h.sc] at lk
            rw [E.chk] at k2
            split at k2
            · rename_i yv ev
              obtain ⟨p3, ev2⟩ := vComp_of ev
              injection ev2 with q1 q2 q3 q4
              subst q1 q2 q3 q4
              simp only [Bool.and_eq_true] at k2
              obtain ⟨⟨⟨⟨⟨⟨⟨m1, m2⟩, m3⟩, m4⟩, m5⟩, m6⟩, m7⟩, m8⟩ := k2
              have z := ps_cp (py := py) (spos := p) (pos := pos) h.calm h.nd h1 lk (swapLoc lk h.bk (by rw [← e5]; exact k7) k8) (okIt it h m2) (h.blkOk m1) (fun s H C cl fp => okTg g2 (h.blk m1 s H C cl fp) m3) (fun s H C cl fp => okPts ts (h.blk m1 s H C cl fp) m4 m5) (fun s H C cl fp => pe_fz (okE m (h.blk m1 s H C cl fp) m6)) (folded_of (isStar_f m8)) (by
                rw [SC.own0_map]
                intro j hj
                simpa using List.all_eq_true.mp m7 j hj)
              rw [SC.own0_map] at z
              exact z
            · cases k2
          · split at k6
            · rename_i lk
              rw [← h.sc] at lk
              exact ps_st h.nd h1 h2 h3 he (swapCell lk)
            · cases k6
        · cases k5
    · cases k
  | .par i j a b, W, Z, X, h, hp, x, k => by
    rw [S.chk] at k
    split at k
    · rename_i n m u w l e
      obtain ⟨px, py, kt, pt, k2, pt2, p, rfl, el⟩ := vPar_of e
      simp only [Bool.and_eq_true] at k
      obtain ⟨⟨⟨⟨⟨⟨⟨⟨⟨⟨⟨⟨k1, k2'⟩, k3⟩, k4⟩, k5⟩, k6⟩, k7⟩, k8⟩, k9⟩, k10⟩, k11⟩, k12⟩, k13⟩ := k
      have ln := lc_of' k3
      have lm := lc_of' k4
      rw [← h.sc] at ln lm
      have hij : i ≠ j := fun z => by rw [z] at k5; simp at k5
      exact ps_pr h.calm h.nd (by rw [h.N]; exact atN_of k1) (by rw [h.N]; exact atN_of k2') hij ln lm (okE a h k8) (okE b h k9) (isStar_f k10) (isStar_f k11) (swapPar h.bk ln lm (by rw [← el]; exact k7) (isStar_f k6) (isStar_f k10) (isStar_f k11) (isStar_f k12) (isStar_f k13))
    · cases k
  | .par3 i j l es, W, Z, X, h, hp, x, k => by
    rw [S.chk] at k
    split at k
    · rename_i n m o u w v q e
      obtain ⟨px, py, pz, kt, pt, k2, pt2, p, rfl, el⟩ := vPar3_of e
      simp only [Bool.and_eq_true] at k
      obtain ⟨⟨⟨⟨⟨⟨⟨⟨⟨⟨⟨⟨⟨⟨⟨a1, a2⟩, a3⟩, b1⟩, b2⟩, b3⟩, c1⟩, c2⟩, c3⟩, d1⟩, d2⟩, d3⟩, q1⟩, ke⟩, f1⟩, f2⟩ := k
      have ln := lc_of' b1
      have lm := lc_of' b2
      have lo := lc_of' b3
      rw [← h.sc] at ln lm lo
      have nq : ∀ {i j : Nat}, (!(i == j)) = true → i ≠ j := fun {i j} k z => by rw [z] at k; simp at k
      exact ps_pr3 h.calm h.nd (by rw [h.N]; exact atN_of a1) (by rw [h.N]; exact atN_of a2) (by rw [h.N]; exact atN_of a3) (nq c1) (nq c2) (nq c3) ln lm lo (okEs es h ke) (swapPar3 h.bk ln lm lo (by rw [← el]; exact q1) (isStar_f d1) (isStar_f d2) (isStar_f d3) (Es.all_star es ke) (isStar_f f1) (isStar_f f2))
    · cases k
  | .aug i o a, W, Z, X, h, hp, x, k => by
    rw [S.chk] at k
    split at k
    · rename_i t o' v e
      obtain ⟨p, rfl⟩ := vAug_of e
      simp only [Bool.and_eq_true, decide_eq_true_eq] at k
      obtain ⟨⟨k1, k2⟩, k3⟩ := k
      split at k1
      · rename_i n e2
        obtain ⟨q, e3⟩ := vName_of e2
        obtain ⟨h1, h2, h3⟩ := h.lo k1
        have e3 : t = .Name n q := e3
        have k2 : o' = o.op := k2
        subst e3 k2
        exact ps_au h.nd h1 h2 h3 (pe_fz (okE a h k3))
      · cases k1
    · cases k
  | .oaug i j o a, W, Z, X, h, hp, x, k => by
    rw [S.chk] at k
    split at k
    · rename_i t o' v e
      obtain ⟨p, rfl⟩ := vAug_of e
      simp only [Bool.and_eq_true, decide_eq_true_eq] at k
      obtain ⟨⟨k1, k2⟩, k3⟩ := k
      split at k1
      · rename_i y e2
        obtain ⟨q, e3⟩ := vSub_of e2
        simp only [Bool.and_eq_true] at k1
        obtain ⟨n, q2, e4, k4⟩ := vn_of k1.1.1
        obtain ⟨h1, h2, h3, h4⟩ := h.vr k4
        have e3 : t = .Subscript y.1 y.2 q := e3
        rw [e4] at e3
        have k2 : o' = o.op := k2
        subst e3 k2
        exact ps_oau h.K h1 h2 h3 h4 (pe_fz (okE j h k1.1.2)) (pe_fz (okE a h k3)) (augStore_of (isStar_f k1.2))
      · cases k1
    · cases k
  | .app i a, W, Z, X, h, hp, x, k => by
    rw [S.chk] at k
    split at k
    · rename_i v e
      obtain ⟨p, rfl⟩ := vEx_of e
      split at k
      · rename_i n f u l e2
        obtain ⟨p1, p2, p3, rfl, el⟩ := vMeth_of e2
        simp only [Bool.and_eq_true] at k
        obtain ⟨⟨⟨⟨k1, k2⟩, k3⟩, k4⟩, k5⟩ := k
        obtain ⟨h1, h2, h3, h4⟩ := h.vr k1
        have e1 : f = ("append" : Str) := eq_of_beq k2
        have z := ps_ap (p := p1) (p2 := p2) (p3 := p3) (pos := p) h.K h1 h2 h3 h4 (pe_fz (okE a h k3)) (isStar_f k4) (by rw [← el]; exact k5)
        rw [← e1] at z
        exact z
      · cases k
    · cases k
  | .ex a, W, Z, X, h, hp, x, k => by
    rw [S.chk] at k
    split at k
    · rename_i v e
      obtain ⟨p, rfl⟩ := vEx_of e
      simp only [Bool.and_eq_true] at k
      exact ps_ex (okE a h k.1) (swaps_of (isStar_f k.2))
    · cases k
  | .ret a, W, Z, X, h, hp, x, k => by
    rw [S.chk] at k
    split at k
    · rename_i v e
      obtain ⟨p, rfl⟩ := vRet_of e
      exact ps_rt (okE a h k)
    · cases k
  | .retn, W, Z, X, h, hp, x, k => by
    rw [S.chk] at k
    split at k
    · rename_i e
      obtain ⟨p, rfl⟩ := vRet_of e
      exact ps_rtn
    · cases k
  | .ifs t a b, W, Z, X, h, hp, x, k => by
    rw [S.chk] at k
    split at k
    · rename_i c u w e
      obtain ⟨p, rfl⟩ := vIfS_of e
      simp only [Bool.and_eq_true] at k
      exact ps_ifd (okT t h k.1.1) (okSs a h hp k.1.2) (okSs b h hp k.2)
    · cases k
  | .fors g it b, W, Z, X, h, hp, x, k => by
    rw [S.chk] at k
    split at k
    · rename_i tg i u e
      obtain ⟨p, rfl⟩ := vFor_of e
      simp only [Bool.and_eq_true] at k
      obtain ⟨⟨⟨k1, k2⟩, k3⟩, k4⟩ := k
      exact ps_fr hp h.calm (okIt it h k2) (okTg g h k1) (okSs b h hp k3) (folded_of (isStar_f k4))
    · cases k
  | .whil t b, W, Z, X, h, hp, x, k => by
    rw [S.chk] at k
    split at k
    · rename_i c u e
      obtain ⟨p, rfl⟩ := vWhile_of e
      simp only [Bool.and_eq_true] at k
      exact ps_wh hp (okT t h k.1) (okSs b h hp k.2)
    · cases k
  | .pass, W, Z, X, h, hp, x, k => by
    rw [S.chk] at k
    unfold sPass at k
    split at k
    · exact ps_ps
    · exact ps_dc
    · cases k
  | .brk, W, Z, X, h, hp, x, k => by
    rw [S.chk] at k
    unfold sBreak at k
    split at k
    · exact ps_bk
    · cases k
  | .cont, W, Z, X, h, hp, x, k => by
    rw [S.chk] at k
    unfold sCont at k
    split at k
    · exact ps_ct
    · cases k
  | .never, W, Z, X, h, hp, x, k => ps_nv
theorem okSs : ∀ (ss : Ss) {W : WX} {Z : SC} {X : Cx}, CxG R W G Vc Z X → PassesOwn (model X.prog X.w) X.A X.env X.xe → ∀ {xs : List Stmt}, ss.chk Z xs = true → PSs X xs (tS R W (ss.den G Vc fu))
  | .nil, W, Z, X, h, hp, xs, k => by
    cases xs with
    | nil => exact pss_nl
    | cons _ _ => rw [Ss.chk] at k; cases k
  | .cons s r, W, Z, X, h, hp, xs, k => by
    cases xs with
    | nil => rw [Ss.chk] at k; cases k
    | cons x y =>
      rw [Ss.chk] at k
      simp only [Bool.and_eq_true] at k
      exact pss_cn (okS s h hp k.1) (okSs r h hp k.2)
  | .wipe is r, W, Z, X, h, hp, xs, k => by
    rw [Ss.chk] at k
    exact PSs.imp (okSs r h hp k) fun D σ H ⟨C, L, ρ, E, q⟩ => ⟨C, L, wipeE ρ is, E.forget is, q⟩
end
end
end Pu
/-! Pu, part 21: a def. -/
namespace Pu
open PySem PySem.Spec PyProof.Rows L2

theorem outsOf_get : ∀ {args ρ o : List Sl}, outsOf args ρ = some o → o.length = args.length ∧ ∀ (i : Nat) s, o[i]? = some s → s = .no ∨ ∃ xs ys, s = .io ys ∧ args[i]? = some (.io xs) ∧ ρ[i]? = some (.io ys)
  | [], ρ, o, h => by
    rw [outsOf] at h
    cases h
    exact ⟨rfl, fun i s z => by simp at z⟩
  | a :: r, ρ, o, h => by
    have key : ∀ (p : Sl) (ρ2 : Env), (p = .no ∨ ∃ xs ys, p = .io ys ∧ a = .io xs ∧ ρ = .io ys :: ρ2) → (∃ q, ρ = q :: ρ2) → (match outsOf r ρ2 with | some o => some (p :: o) | none => none) = some o →
        o.length = (a :: r).length ∧ ∀ (i : Nat) s, o[i]? = some s → s = .no ∨ ∃ xs ys, s = .io ys ∧ (a :: r)[i]? = some (.io xs) ∧ ρ[i]? = some (.io ys) := fun p ρ2 hp hr e => by
      cases q : outsOf r ρ2 with
      | none => rw [q] at e; cases e
      | some o2 =>
        rw [q] at e
        cases e
        obtain ⟨h1, h2⟩ := outsOf_get q
        refine ⟨by rw [List.length_cons, List.length_cons, h1], fun i s z => ?_⟩
        cases i with
        | zero =>
          have z : p = s := by simpa using z
          subst z
          rcases hp with hp | ⟨xs, ys, e1, e2, e3⟩
          · exact .inl hp
          · exact .inr ⟨xs, ys, e1, by rw [e2]; rfl, by rw [e3]; rfl⟩
        | succ i =>
          rw [List.getElem?_cons_succ] at z
          rcases h2 i s z with w | ⟨xs, ys, e1, e2, e3⟩
          · exact .inl w
          · obtain ⟨q, er⟩ := hr
            exact .inr ⟨xs, ys, e1, by rw [List.getElem?_cons_succ]; exact e2, by rw [er, List.getElem?_cons_succ]; exact e3⟩
    cases a with
    | io xs =>
      cases ρ with
      | nil => rw [outsOf] at h; cases h; all_goals simp
      | cons b ρ2 =>
        cases b with
        | io ys => exact key _ ρ2 (.inr ⟨xs, ys, rfl, rfl, rfl⟩) ⟨_, rfl⟩ h
        | _ => cases h
    | _ =>
      cases ρ with
      | nil => cases h
      | cons b ρ2 => exact key .no ρ2 (.inl rfl) ⟨_, rfl⟩ h
section
variable {R : RC} {C : Cc} {L : Addr → Bool} {H : Hp}
theorem EnvOk.out {ρ args o : Env} {σ σ0 : L2.St} (E : EnvOk R C L H ρ σ) (h : outsOf args ρ = some o) (hl : args.length = σ0.length) (ha : ∀ (i : Nat) xs, args[i]? = some (.io xs) → slAt σ0 i = some (.ref (C.io i))) : EnvOk R C L H o σ0 := by
  obtain ⟨h1, h2⟩ := outsOf_get h
  refine ⟨h1.trans hl, fun i s hs => ?_, fun i j xs ys ne e1 e2 => ?_, fun i j xs ys ne e1 e2 => ?_, E.fr, E.o0, E.pr, E.lv⟩
  · rcases h2 i s hs with rfl | ⟨xs, ys, rfl, e2, e3⟩
    · trivial
    · obtain ⟨g1, g2, g3⟩ := E.sl i _ e3
      exact ⟨ha i xs e2, g2, g3⟩
  · rcases h2 i _ e1 with z | ⟨_, _, z, _⟩ <;> cases z
  · rcases h2 i _ e1 with z | ⟨_, _, z, _, q1⟩
    · cases z
    · rcases h2 j _ e2 with z2 | ⟨_, _, z2, _, q2⟩
      · cases z2
      · exact E.ioj i j _ _ ne q1 q2
theorem EnvOk.pad {args : Env} {σ : L2.St} (E : EnvOk R C L H args σ) (n : Nat) : EnvOk R C L H (args ++ List.replicate n .no) (σ ++ List.replicate n none) := by
  have hl := E.len
  have get : ∀ {i s}, (args ++ List.replicate n Sl.no)[i]? = some s → args[i]? = some s ∨ s = Sl.no := fun {i s} e => by
    rw [List.getElem?_append] at e
    split at e
    · exact .inl e
    · rw [List.getElem?_replicate] at e
      split at e
      · exact .inr (Option.some.inj e).symm
      · cases e
  have sl : ∀ {i s}, args[i]? = some s → slAt (σ ++ List.replicate n none) i = slAt σ i := fun {i s} e => by
    have hi := (List.getElem?_eq_some_iff.mp e).1
    unfold slAt
    rw [List.getElem?_append_left (by rw [← hl]; exact hi)]
  refine ⟨by rw [List.length_append, List.length_append, List.length_replicate, List.length_replicate, hl], fun i s hs => ?_, fun i j xs ys ne e1 e2 => ?_, fun i j xs ys ne e1 e2 => ?_, E.fr, E.o0, E.pr, E.lv⟩
  · rcases get hs with z | rfl
    · rw [sl z]
      exact E.sl i s z
    · trivial
  · rcases get e1 with z | z
    · rcases get e2 with z2 | z2
      · rw [sl z, sl z2]
        exact E.inj i j _ _ ne z z2
      · cases z2
    · cases z
  · rcases get e1 with z | z
    · rcases get e2 with z2 | z2
      · exact E.ioj i j _ _ ne z z2
      · cases z2
    · cases z
end
/-- the defs a def may lean on -/
def FnAt (P : Program) (w : World) (K : PySem.W.Frag) (mg : Str → Option Value) (base : Heap) (R : RC) (kp : List (Nat × List Str × List Nat)) (j k : Nat) (x : Str) (φ : M Rv) : Prop :=
  ∃ f fd ps, R.fa k = some f ∧ mg x = some (.ref f) ∧ FnG P w K mg base j f fd ps (spF R ps.length φ) ∧ PySem.W.keepIn K (.ref f) = true ∧ Binds K fd ps [] ∧ (∀ args, args.length = ps.length ∨ φ args = .bad) ∧ ∀ ns pm, (k, ns, pm) ∈ kp → BindsK K fd ps ns pm
structure ModG (P : Program) (w : World) (K : PySem.W.Frag) (mg : Str → Option Value) (base : Heap) (R : RC) (Vc : CT) (gc : List Str) (gb : Bool) : Prop where
  K : K = R.K
  blt : ∀ x ∈ bltN, mg x = none
  gc : ∀ k x, gc[k]? = some x → ∃ d v u, Vc k = some d ∧ mg x = some u ∧ RelV v u ∧ ∀ H, Rep R H d v
  gcd : gb = true → mg "gcd" = some (.builtin "math.gcd")
def Fns (P : Program) (w : World) (K : PySem.W.Frag) (mg : Str → Option Value) (base : Heap) (R : RC) (kp : List (Nat × List Str × List Nat)) (j : Nat) (names : List Str) (l : List (M Rv)) : Prop :=
  l.length = names.length ∧ ∀ (k : Nat) x, names[k]? = some x → ∃ φ, l[k]? = some φ ∧ FnAt P w K mg base R kp j k x φ
def gOf (l : List (M Rv)) : FT := fun k => l[k]?
theorem fn_arity {G : FT} {Vc : CT} {fu n N : Nat} {b : Ss} (args : Env) : args.length = n ∨ Ss.fn G Vc fu n N b args = .bad := by
  by_cases h : args.length = n
  · exact .inl h
  · right
    unfold Ss.fn
    rw [if_neg h]
section
variable {P : Program} {w : World} {K : PySem.W.Frag} {mg : Str → Option Value} {base : Heap} {R : RC} {Vc : CT} {gc names : List Str} {gb : Bool} {kp : List (Nat × List Str × List Nat)} {l : List (M Rv)} {j fu : Nat} {x qual : Str} {st : Stmt} {f : Addr} {fd : FuncData} {N ps : List Str} {b : Ss}
theorem fn_data (m : ModG P w K mg base R Vc gc gb) (fs : Fns P w K mg base R kp j names l) (F : Fun K x qual st f fd) (S : FnScope N ps (defScope st)) (hk : b.chk ⟨N, defScope st, true, names, gc, gb, kp⟩ (defBody st) = true) :
    FnG P w K mg base (j + 1) f fd ps (spF R ps.length (Ss.fn (gOf l) Vc fu ps.length N.length b)) := by
  refine fnG_of F S (fun vs H Q E ⟨_, _, h, _⟩ => h) fun cdv A outer s H vs Q E hr h => ?_
  obtain ⟨C, args, hl, hE, hm⟩ := h
  have al : args.length = ps.length := by rw [hE.len, List.length_map, hl]
  have cg : CxG R (fun cls d _ H' => E cls d H') (gOf l) Vc ⟨N, defScope st, true, names, gc, gb, kp⟩ (cxOf (L2.CX P w) P w K mg base N qual (defScope st) f cdv A outer s H E) := by
    refine ⟨m.K, rfl, S.nd, rfl, fun _ _ => rfl, rfl, takes_of rfl rfl rfl rfl, hr.g, ?_, S.kind, m.blt, fun k y hy => ?_, fun k φ e => ?_, m.gc, m.gcd⟩
    · have := hr.r.un
      show (A.deeper _).units + 64 < cLine
      omega
    · obtain ⟨φ, e1, f', fd', ps', h1, h2, h3, h4, h5, h6, h7⟩ := fs.2 k y hy
      exact ⟨f', j, fd', ps', φ, e1, h1, h2, h3, hr, h4, h5, h6, h7⟩
    · have e : l[k]? = some φ := e
      have hk2 := (List.getElem?_eq_some_iff.mp e).1
      rw [fs.1] at hk2
      exact ⟨_, List.getElem?_eq_getElem hk2⟩
  refine ⟨_, okSs (fu := fu) b cg (passes_of rfl) hk, C, noL, args ++ List.replicate (N.length - ps.length) .no, ?_, ?_⟩
  · unfold L2.start
    rw [hl]
    exact hE.pad _
  · have io : ∀ (i : Nat) xs, args[i]? = some (.io xs) → slAt (vs.map some) i = some (.ref (C.io i)) := fun i xs e => (hE.sl i _ e).1
    have la : args.length = (vs.map some).length := hE.len
    unfold Ss.fn at hm
    rw [if_pos al] at hm
    unfold FlK
    cases q : b.den (gOf l) Vc fu (args ++ List.replicate (N.length - ps.length) .no) with
    | bad => rw [q] at hm; exact hm
    | bk ρ => rw [q] at hm; exact hm.elim
    | ct ρ => rw [q] at hm; exact hm.elim
    | nx ρ =>
      rw [q] at hm
      simp only [] at hm ⊢
      cases q2 : outsOf args ρ with
      | none => rw [q2] at hm; exact hm.elim
      | some o =>
        rw [q2] at hm
        exact fun σ' L' H' E' S' => hm .non L' H' (E'.out q2 la io) S' rfl
    | rt r ρ =>
      rw [q] at hm
      simp only [] at hm ⊢
      cases q2 : outsOf args ρ with
      | none => rw [q2] at hm; exact hm.elim
      | some o =>
        rw [q2] at hm
        refine fun v σ' L' H' E' S' rv => hm v L' H' (E'.out q2 la io) S' ?_
        cases r with
        | im d => exact rv
        | nw ds =>
          obtain ⟨p, us, e1, e2, e3, e4, _⟩ := rv
          refine ⟨p, us, e1, e2, e3, e4, fun i xs hi => ?_⟩
          rcases (outsOf_get q2).2 i _ hi with z | ⟨_, _, z, _⟩ <;> cases z
    | exc y ρ =>
      rw [q] at hm
      simp only [] at hm ⊢
      cases q2 : outsOf args ρ with
      | none => rw [q2] at hm; exact hm.elim
      | some o =>
        rw [q2] at hm
        exact fun cls d σ' L' H' E' S' xo => hm cls d L' H' (E'.out q2 la io) S' xo
end
end Pu
/-! Pu, part 22: the law's own head. -/
namespace Pu
open PySem PySem.Spec PyProof.Rows L2

theorem noCX {P : Program} {w : World} {H : Hp} {s : Shared} {e : Value} {s' : Shared} (h : L2.CX P w [] H s (fun _ _ _ => False) e s') : False := by
  obtain ⟨_, _, _, _, _, _, _, _, _, _, _, _, z⟩ := h
  exact z
theorem law_callG {P : Program} {w : World} {K : PySem.W.Frag} {mg mb : Str → Option Value} {k : Nat} {fa a : Addr} {fd : FuncData} {x : Str} {sp : Sp} {s₁ : Shared} {vs : List Value} {ns : List Int}
    (kx : K.In s₁.heap) (gns : s₁.heap.Ns mainGlobals mg) (bns : s₁.heap.Ns builtinsNs mb) (bot : ∀ x : Str, x ≠ "__name__" → mb x = bootBuiltins x) (lim : s₁.heap.NoLimit) (gz : s₁.gens = #[])
    (oa : s₁.heap.get? a = some { cls := .type "list", data := .seq vs.toArray }) (ia : IntsAre vs ns) (la : ns.length ≤ sizeLine) (rm : RoomG k callerA)
    (F : ∀ base : Heap, K.In base → base.Ns mainGlobals mg → FnG P w K mg base k fa fd [x] sp) (bnd : ∀ (s : Shared) (u : Value), BindsTo s fd ⟨[u], []⟩ [(x, u)])
    (prm : ∀ H : Hp, Only H → SqL K H a (ns.map V.int) → sp [.ref a] H (fun v _ => v = .bl true) fun _ _ _ => False) :
    codeAny (model P w) callerA (.call (.ref fa) ⟨[.ref a], []⟩) (fun r s' => r = .ok (.ret (.bool true)) ∧ OldK s₁.heap s'.heap ∧ s'.os = s₁.os ∧ AllBare s'.gens) s₁ := by
  have vi := vals_ints ia
  have ln := ia.length
  -- from an abstract heap in which nothing but the script may be tracked
  have mid : ∀ H : Hp, Only H → SqL K H a (ns.map V.int) → HOk P w H s₁.heap → (∀ b, H b ≠ none → b = a) → (H a ≠ none → K.lookup a = none) →
      codeAny (model P w) callerA (.call (.ref fa) ⟨[.ref a], []⟩) (fun r s' => r = .ok (.ret (.bool true)) ∧ OldK s₁.heap s'.heap ∧ s'.os = s₁.os ∧ AllBare s'.gens) s₁ := by
    intro H oh sh ok1 only kno
    have bof : ∀ {b : Addr} {o : Obj}, s₁.heap.get? b = some o → H b = none → (hidT s₁.heap H).get? b = some o := fun e n => hidT_get e n
    have noD : ∀ {b : Addr} {o : Obj} {es : Array DictEntry} {ep : Nat}, s₁.heap.get? b = some o → o.data = .dict es ep → H b = none := fun {b o es ep} e d => by
      cases q : H b with
      | none => rfl
      | some u =>
        have e' : b = a := only b (by rw [q]; simp)
        subst e'
        rw [oa] at e; cases e
        have d' : Data.seq vs.toArray _ = Data.dict es ep := d
        cases d'
    have nk : ∀ {b : Addr} {m : Str → Option Value}, s₁.heap.Ns b m → (hidT s₁.heap H).Ns b m := fun {b m} ⟨o, es, ep, e, d, r⟩ => ⟨o, es, ep, bof e (noD e d), d, r⟩
    have kb : K.In (hidT s₁.heap H) := fun b o e => bof (kx b o e) (by
      cases q : H b with
      | none => rfl
      | some u =>
        have e' : b = a := only b (by rw [q]; simp)
        subst e'
        rw [kno (by rw [q]; simp)] at e; cases e)
    have md : Mod K mg (hidT s₁.heap H) := ⟨kb, nk gns, ⟨mb, nk bns, bot⟩, let ⟨mc, h1, h2⟩ := lim; ⟨mc, nk h1, h2⟩⟩
    have ev0 : Env0 P w K mg (hidT s₁.heap H) callerA [] s₁ H := ⟨rfl, md, fun b o e => of_hidT e, Nat.le_of_eq (hidT_size _ _), trivial, fun b bns => absurd (show b ∈ ([] : List Addr) from bns) (by simp), ok1, .of_eq gz⟩
    refine codeAny_mono ((F _ kb (nk gns)).run callerA [] s₁ H ⟨[.ref a], []⟩ [.ref a] [.ref a] _ _ rm ev0 (bnd s₁ (.ref a)) (.cons rfl .nil) (prm H oh sh)) fun r s' h => ?_
    cases r with
    | error e => exact (noCX h).elim
    | ok fl =>
      cases fl with
      | next => exact False.elim h
      | brk => exact False.elim h
      | cont => exact False.elim h
      | ret u =>
        obtain ⟨v, H', os, bare, un, hok', r', q⟩ := h
        have q' : v = .bl true := q
        subst q'
        obtain rfl : u = Value.bool true := r'
        refine ⟨rfl, OldK.of_keep fun b o e => ?_, os, bare⟩
        cases q : H b with
        | none => exact un.keep b o e q (by intro z; exact absurd (show b ∈ ([] : List Addr) from z) (by simp)) (by simp)
        | some u =>
          rcases oh b with z | ⟨ob, xs, z⟩
          · rw [q] at z; cases z
          · have z2 := un.frzs b ob _ z
            obtain ⟨e1, _⟩ := ok1 b _ z
            obtain ⟨e2, _⟩ := hok' b _ z2
            rw [e] at e1; cases e1
            exact e2
  cases hk : K.lookup a with
  | some o =>
    -- the script is one of the module's own objects
    have e := kx a o hk
    rw [oa] at e
    cases e
    refine mid (fun _ => none) (fun _ => .inl rfl) (.inr ⟨_, vs.toArray, _, hk, rfl, rfl, rfl, by rw [List.size_toArray, ln]; exact la, by simpa using vi⟩) (fun b u z => by have z' : (none : Option HO) = some u := z; cases z') (fun b z => absurd rfl z) fun z => absurd rfl z
  | none =>
    refine mid (fun b => if b = a then some (.frz { cls := .type "list", data := .seq vs.toArray } (.lst (ns.map V.int))) else none) (fun b => ?_) (.inl (.inr ⟨{ cls := .type "list", data := .seq vs.toArray }, if_pos rfl⟩)) (fun b u z => ?_) (fun b z => ?_) fun _ => hk
    · by_cases bns : b = a
      · exact .inr ⟨_, _, if_pos bns⟩
      · exact .inl (if_neg bns)
    · by_cases bns : b = a
      · have z' := (if_pos bns).symm.trans z
        cases z'
        subst bns
        exact ⟨oa, by rw [List.length_map]; exact la, vs, _, vi, oa⟩
      · have z' := (if_neg bns).symm.trans z
        cases z'
    · by_cases bns : b = a
      · exact bns
      · exact absurd (if_neg bns) z
theorem walk_ofG {l : PySem.W.OpenLaw} {n k : Nat} {q : Program} {loose : List Str} {XP : (Str → Option Value) → Heap → Prop} {YP : World → Heap → Prop} {d : DefRec} {K : Params → PySem.W.Frag} {sp : World → Sp} {x : Str}
    (h1 : l.most = some n) (h2 : n ≤ sizeLine) (h3 : d.params.defaults = []) (rm : RoomG k callerA) (kin : ∀ (w : World) (h : Heap), YP w h → (K w.params).In h)
    (F : ∀ (w : World) (mg : Str → Option Value) (fa : Addr) (h : Heap), (K w.params).In h → h.Ns mainGlobals mg → mg d.name = some (.ref fa) →
      ∃ fd : FuncData, (∀ (s : Shared) (u : Value), BindsTo s fd ⟨[u], []⟩ [(x, u)]) ∧ ∀ base : Heap, (K w.params).In base → base.Ns mainGlobals mg → FnG l.prog w (K w.params) mg base k fa fd [x] (sp w))
    (prm : ∀ (w : World) (H : Hp) (a : Addr) (ns : List Int), ns.length ≤ n → Only H → SqL (K w.params) H a (ns.map V.int) → sp w [.ref a] H (fun v _ => v = .bl true) fun _ _ _ => False) :
    PySem.W.WalkO q loose XP YP l.row.toRowW d [] (fun f vs => PySem.call f vs) := by
  refine Att.attach_call h1 h3 fun w s0 s1 mg mb fa o pm cd doc a vs ns gr yp o1 o2 o3 o4 o5 o6 o7 o8 => ?_
  obtain ⟨fd, b1, b2⟩ := F w mg fa _ (kin w _ yp) gr.T.g o4
  exact law_callG (kin w _ yp) gr.T.g gr.T.b gr.T.builtins gr.T.nolimit o8 o5 o6 (Nat.le_trans o7 h2) rm b2 b1 fun H a1 a2 => prm w H a ns o7 a1 a2
/-- the script as data -/
theorem spF_law {R : RC} {φ : M Rv} {H : Hp} {a : Addr} {ns : List Int} (sh : SqL R.K H a (ns.map V.int)) (e : ∃ outs, φ [.im (.rol (ns.map D.int))] = .ok (.im (.bl true)) outs) : spF R 1 φ [.ref a] H (fun v _ => v = .bl true) fun _ _ _ => False := by
  obtain ⟨outs, e⟩ := e
  have reps : ∀ (V1 : Hp) (ms : List Int), Reps R V1 (ms.map D.int) (ms.map V.int) := fun V1 ms => by
    induction ms with
    | nil => rfl
    | cons m ms ih => exact ⟨_, _, rfl, rfl, ih⟩
  let C0 : Cc := ⟨fun _ => false, fun _ => false, fun _ => 0, fun _ => none⟩
  have ev : vis C0 noL H = H := by
    funext b
    unfold vis hid noL
    simp [C0]
  refine ⟨C0, [.im (.rol (ns.map D.int))], rfl, ⟨rfl, fun i s hi => ?_, fun i j xs ys _ z _ => ?_, fun i j xs ys _ z _ => ?_, fun b z => (by cases z), fun b z => (by cases z), fun b o z => (by cases z), fun b z => (by cases z)⟩, ?_⟩
  · cases i with
    | zero =>
      have e1 : Sl.im (.rol (ns.map D.int)) = s := by simpa using hi
      subst e1
      exact ⟨.ref a, rfl, a, _, rfl, by rw [ev]; exact sh, reps _ _⟩
    | succ i => simp at hi
  · cases i with
    | zero => simp at z
    | succ i => simp at z
  · cases i with
    | zero => simp at z
    | succ i => simp at z
  · rw [e]
    exact fun v L' H' _ _ rv => rv
end Pu
/-! Pu, part 23: def behind def. -/
namespace Pu
open PySem PySem.Spec PyProof.Rows L2

theorem bindsK_of {K : PySem.W.Frag} {x qual : Str} {st : Stmt} {f : Addr} {fd : FuncData} {ps ns : List Str} {pm : List Nat} (F : Fun K x qual st f fd)
    (h : ∀ (kV doc pv : Value) (an : Option Addr) (cdv ct : Value) (ws : List Value), ws.length = ns.length → bindArgs (PySem.W.fnOf x qual (defArgs st) (defBody st) (defScope st) .none kV doc pv an cdv ct) ⟨[], ns.zip ws⟩ = pure (ps.zip (permL pm ws))) : BindsK K fd ps ns pm := by
  obtain ⟨oc, od, kV, doc, pv, an, cdv, ct, osl, rfl, lk, hcd⟩ := F.ex
  exact fun s ws X hl => .of_eq (h kV doc pv an cdv ct ws hl)
/-- where the k-th def stands -/
def At (K : PySem.W.Frag) (mg : Str → Option Value) (R : RC) (kp : List (Nat × List Str × List Nat)) (k : Nat) (st : Stmt) (x : Str) (ps : List Str) : Prop :=
  ∃ f fd, R.fa k = some f ∧ Fun K x x st f fd ∧ mg x = some (.ref f) ∧ Binds K fd ps [] ∧ ∀ ns pm, (k, ns, pm) ∈ kp → BindsK K fd ps ns pm
section
variable {P : Program} {w : World} {K : PySem.W.Frag} {mg : Str → Option Value} {base : Heap} {R : RC} {Vc : CT} {gc names : List Str} {gb : Bool} {kp : List (Nat × List Str × List Nat)} {l : List (M Rv)} {j k fu : Nat} {x : Str} {st : Stmt} {N ps : List Str} {b : Ss} {φ : M Rv}
theorem Fns.nil : Fns P w K mg base R kp 0 [] [] := ⟨rfl, fun k x h => by simp at h⟩
theorem FnAt.mono {j' : Nat} (h : FnAt P w K mg base R kp j k x φ) (le : j ≤ j') : FnAt P w K mg base R kp j' k x φ := by
  obtain ⟨f, fd, ps, h1, h2, h3, h4⟩ := h
  exact ⟨f, fd, ps, h1, h2, h3.mono le, h4⟩
theorem Fns.snoc (h : Fns P w K mg base R kp j names l) (le : FnAt P w K mg base R kp (j + 1) names.length x φ) : Fns P w K mg base R kp (j + 1) (names ++ [x]) (l ++ [φ]) := by
  refine ⟨by rw [List.length_append, List.length_append, h.1]; rfl, fun k y e => ?_⟩
  by_cases hk : k < names.length
  · rw [List.getElem?_append_left hk] at e
    obtain ⟨ψ, e1, e2⟩ := h.2 k y e
    exact ⟨ψ, by rw [List.getElem?_append_left (by rw [h.1]; exact hk)]; exact e1, e2.mono (Nat.le_succ _)⟩
  · rw [List.getElem?_append_right (Nat.le_of_not_lt hk)] at e
    have hz : k = names.length := by
      have := (List.getElem?_eq_some_iff.mp e).1
      have e0 : ([x] : List Str).length = 1 := rfl
      omega
    subst hz
    rw [Nat.sub_self] at e
    have e : x = y := by simpa using e
    subst e
    exact ⟨φ, by rw [← h.1, List.getElem?_append_right (Nat.le_refl _), Nat.sub_self]; rfl, le⟩
/-- one def more -/
theorem Fns.step (h : Fns P w K mg base R kp j names l) (m : ModG P w K mg base R Vc gc gb) (a : At K mg R kp names.length st x ps) (S : FnScope N ps (defScope st)) (hk : b.chk ⟨N, defScope st, true, names, gc, gb, kp⟩ (defBody st) = true)
    (e : ∀ args, φ args = .bad ∨ φ args = Ss.fn (gOf l) Vc fu ps.length N.length b args) : Fns P w K mg base R kp (j + 1) (names ++ [x]) (l ++ [φ]) := by
  obtain ⟨f, fd, h1, F, h2, h3, h4⟩ := a
  refine h.snoc ⟨f, fd, ps, h1, h2, (fn_data m h F S hk).imp (spF.imp e), F.kp, h3, fun args => ?_, h4⟩
  rcases e args with z | z
  · exact .inr z
  · rcases fn_arity (G := gOf l) (Vc := Vc) (fu := fu) (n := ps.length) (N := N.length) (b := b) args with q | q
    · exact .inl q
    · exact .inr (z.trans q)
end
end Pu
/-! Pu, part 24: data programs read by simp. -/
namespace Pu
open PySem PySem.Spec PyProof.Rows L2

def Res.bd {α β : Type} (r : Res α) (f : α → M β) : Res β := match r with
  | .ok a ρ => f a ρ
  | .exc x ρ => .exc x ρ
  | .bad => .bad
@[simp] theorem bd_ok {α β : Type} (a : α) (ρ : Env) (f : α → M β) : (Res.ok a ρ).bd f = f a ρ := Eq.trans rfl rfl
@[simp] theorem bd_exc {α β : Type} (x : XD) (ρ : Env) (f : α → M β) : (Res.exc x ρ : Res α).bd f = .exc x ρ := Eq.trans rfl rfl
@[simp] theorem bd_bad {α β : Type} (f : α → M β) : (Res.bad : Res α).bd f = .bad := Eq.trans rfl rfl
@[simp] theorem mbind_ap {α β : Type} (m : M α) (f : α → M β) (ρ : Env) : mbind m f ρ = (m ρ).bd f := by
  unfold mbind Res.bd
  rfl
@[simp] theorem mret_ap {α : Type} (a : α) (ρ : Env) : mret a ρ = .ok a ρ := Eq.trans rfl rfl
@[simp] theorem mbad_ap {α : Type} (ρ : Env) : (mbad : M α) ρ = .bad := Eq.trans rfl rfl
@[simp] theorem mopt_some {α : Type} (a : α) : mopt (some a) = mret a := Eq.trans rfl rfl
@[simp] theorem mopt_none {α : Type} : (mopt none : M α) = mbad := Eq.trans rfl rfl
@[simp] theorem fz_ap (m : M Rv) (ρ : Env) : fz m ρ = (m ρ).bd fun r => mret r.d := by
  unfold fz
  rw [mbind_ap]
@[simp] theorem rv_im (d : D) : (Rv.im d).d = d := Eq.trans rfl rfl
@[simp] theorem rv_nw (ds : List D) : (Rv.nw ds).d = .lst ds := Eq.trans rfl rfl
@[simp] theorem sl_im (d : D) : (Rv.im d).sl = .im d := Eq.trans rfl rfl
@[simp] theorem sl_nw (ds : List D) : (Rv.nw ds).sl = .ow ds := Eq.trans rfl rfl
def rdS : Option Sl → Nat → M Rv
  | some (.im d), _ => fun ρ => .ok (.im d) ρ
  | some (.ow xs), i => fun ρ => .ok (.im (.lst xs)) (ρ.set i (.im (.lst xs)))
  | _, _ => fun _ => .bad
@[simp] theorem rd_ap (i : Nat) (ρ : Env) : rd i ρ = rdS ρ[i]? i ρ := by
  unfold rd rdS
  split <;> simp_all
@[simp] theorem rdS_im (d : D) (i : Nat) (ρ : Env) : rdS (some (.im d)) i ρ = .ok (.im d) ρ := Eq.trans rfl rfl
@[simp] theorem rdS_ow (xs : List D) (i : Nat) (ρ : Env) : rdS (some (.ow xs)) i ρ = .ok (.im (.lst xs)) (ρ.set i (.im (.lst xs))) := Eq.trans rfl rfl
def mvS : Option Sl → Nat → M Rv
  | some (.im d), _ => fun ρ => .ok (.im d) ρ
  | some (.ow xs), i => fun ρ => .ok (.nw xs) (ρ.set i .no)
  | _, _ => fun _ => .bad
@[simp] theorem mvd_ap (i : Nat) (ρ : Env) : mvd i ρ = mvS ρ[i]? i ρ := by
  unfold mvd mvS
  split <;> simp_all
@[simp] theorem mvS_im (d : D) (i : Nat) (ρ : Env) : mvS (some (.im d)) i ρ = .ok (.im d) ρ := Eq.trans rfl rfl
@[simp] theorem mvS_ow (xs : List D) (i : Nat) (ρ : Env) : mvS (some (.ow xs)) i ρ = .ok (.nw xs) (ρ.set i .no) := Eq.trans rfl rfl
def owS : Option Sl → M (List D)
  | some (.ow xs) => fun ρ => .ok xs ρ
  | some (.io xs) => fun ρ => .ok xs ρ
  | _ => fun _ => .bad
@[simp] theorem own_ap (i : Nat) (ρ : Env) : own i ρ = owS ρ[i]? ρ := by
  unfold own owS
  split <;> simp_all
@[simp] theorem owS_ow (xs : List D) (ρ : Env) : owS (some (.ow xs)) ρ = .ok xs ρ := Eq.trans rfl rfl
@[simp] theorem owS_io (xs : List D) (ρ : Env) : owS (some (.io xs)) ρ = .ok xs ρ := Eq.trans rfl rfl
def wrS : Option Sl → Nat → List D → M Unit
  | some (.ow _), i, xs => fun ρ => .ok () (ρ.set i (.ow xs))
  | some (.io _), i, xs => fun ρ => .ok () (ρ.set i (.io xs))
  | _, _, _ => fun _ => .bad
@[simp] theorem wr_ap (i : Nat) (xs : List D) (ρ : Env) : wr i xs ρ = wrS ρ[i]? i xs ρ := by
  unfold wr wrS
  split <;> simp_all
@[simp] theorem wrS_ow (a xs : List D) (i : Nat) (ρ : Env) : wrS (some (.ow a)) i xs ρ = .ok () (ρ.set i (.ow xs)) := Eq.trans rfl rfl
@[simp] theorem wrS_io (a xs : List D) (i : Nat) (ρ : Env) : wrS (some (.io a)) i xs ρ = .ok () (ρ.set i (.io xs)) := Eq.trans rfl rfl
def stS : Option Sl → Nat → Rv → M Unit
  | some (.io _), _, _ => fun _ => .bad
  | some _, i, r => fun ρ => .ok () (ρ.set i r.sl)
  | none, _, _ => fun _ => .bad
@[simp] theorem st_ap (i : Nat) (r : Rv) (ρ : Env) : st i r ρ = stS ρ[i]? i r ρ := by
  unfold st stS
  split <;> simp_all
@[simp] theorem stS_no (i : Nat) (r : Rv) (ρ : Env) : stS (some .no) i r ρ = .ok () (ρ.set i r.sl) := Eq.trans rfl rfl
@[simp] theorem stS_im (d : D) (i : Nat) (r : Rv) (ρ : Env) : stS (some (.im d)) i r ρ = .ok () (ρ.set i r.sl) := Eq.trans rfl rfl
@[simp] theorem stS_ow (d : List D) (i : Nat) (r : Rv) (ρ : Env) : stS (some (.ow d)) i r ρ = .ok () (ρ.set i r.sl) := Eq.trans rfl rfl
section
variable (G : FT) (W : CT) (fu : Nat)
@[simp] theorem dn_c (c : Cn) : E.den G W (.c c) = mret (.im c.d) := by rw [E.den]
@[simp] theorem dn_g (k : Nat) : E.den G W (.g k) = mopt ((W k).map .im) := by rw [E.den]
@[simp] theorem dn_f (k : Nat) : E.den G W (.f k) = mret (.im (.fn k)) := by rw [E.den]
@[simp] theorem dn_v (i : Nat) : E.den G W (.v i) = rd i := by rw [E.den]
@[simp] theorem dn_mv (i : Nat) : E.den G W (.mv i) = mvd i := by rw [E.den]
@[simp] theorem dn_b2 (o : B2) (a b : E) : E.den G W (.b2 o a b) = mbind (fz (a.den G W)) fun x => mbind (fz (b.den G W)) fun y => mopt (o.den x y) := by rw [E.den]
@[simp] theorem dn_c2 (o : C2) (a b : E) : E.den G W (.c2 o a b) = mbind (fz (a.den G W)) fun x => mbind (fz (b.den G W)) fun y => mopt ((o.den x y).map fun t => .im (.bl t)) := by rw [E.den]
def c3S (k : M Rv) : Bool → M Rv
  | true => k
  | false => mret (.im (.bl false))
@[simp] theorem c3S_t (k : M Rv) : c3S k true = k := Eq.trans rfl rfl
@[simp] theorem c3S_f (k : M Rv) : c3S k false = mret (.im (.bl false)) := Eq.trans rfl rfl
@[simp] theorem dn_c3 (o o' : C2) (a b c : E) : E.den G W (.c3 o o' a b c) = mbind (fz (a.den G W)) fun x => mbind (fz (b.den G W)) fun y => mbind (mopt (o.den x y)) fun t => c3S (mbind (fz (c.den G W)) fun z => mopt ((o'.den y z).map fun t => .im (.bl t))) t := by
  rw [E.den]
  refine congrArg _ (funext fun x => congrArg _ (funext fun y => congrArg _ (funext fun t => ?_)))
  cases t <;> rfl
def negS : D → M Rv
  | .int i => mret (.im (.int (-i)))
  | _ => mbad
@[simp] theorem negS_i (i : Int) : negS (.int i) = mret (.im (.int (-i))) := Eq.trans rfl rfl
@[simp] theorem dn_neg (a : E) : E.den G W (.neg a) = mbind (fz (a.den G W)) negS := by
  rw [E.den]
  refine congrArg _ (funext fun x => ?_)
  cases x <;> rfl
@[simp] theorem dn_not (a : E) : E.den G W (.not a) = mbind (fz (a.den G W)) fun x => mopt (x.truth.map fun t => .im (.bl (!t))) := by rw [E.den]
@[simp] theorem dn_and (es : Es) : E.den G W (.and es) = es.andD G W := by rw [E.den]
@[simp] theorem dn_or (es : Es) : E.den G W (.or es) = es.orD G W := by rw [E.den]
def iteS {α : Type} (a b : M α) : Bool → M α
  | true => a
  | false => b
@[simp] theorem iteS_t {α : Type} (a b : M α) : iteS a b true = a := Eq.trans rfl rfl
@[simp] theorem iteS_f {α : Type} (a b : M α) : iteS a b false = b := Eq.trans rfl rfl
@[simp] theorem dn_ite (t : T) (a b : E) : E.den G W (.ite t a b) = mbind (t.den G W) (iteS (a.den G W) (b.den G W)) := by
  rw [E.den]
  refine congrArg _ (funext fun x => ?_)
  cases x <;> rfl
@[simp] theorem dn_tup (es : Es) : E.den G W (.tup es) = mbind (es.den G W) fun xs => if xs.length ≤ sizeLine then mret (.im (.tup xs)) else mbad := by rw [E.den]
@[simp] theorem dn_lst (es : Es) : E.den G W (.lst es) = mbind (es.den G W) fun xs => if xs.length ≤ sizeLine then mret (.nw xs) else mbad := by rw [E.den]
def subS : Option (List D) → D → M Rv
  | some xs, .int i => mopt ((atI xs i).map .im)
  | _, _ => mbad
@[simp] theorem subS_i (xs : List D) (i : Int) : subS (some xs) (.int i) = mopt ((atI xs i).map .im) := Eq.trans rfl rfl
@[simp] theorem dn_sub (a b : E) : E.den G W (.sub a b) = mbind (fz (a.den G W)) fun x => mbind (fz (b.den G W)) fun y => subS x.seq? y := by
  rw [E.den]
  refine congrArg _ (funext fun x => congrArg _ (funext fun y => ?_))
  unfold subS
  rfl
@[simp] theorem dn_osub (i : Nat) (b : E) : E.den G W (.osub i b) = mbind (own i) fun _ => mbind (fz (b.den G W)) fun y => mbind (own i) fun xs => subS (some xs) y := by
  rw [E.den]
  refine congrArg _ (funext fun x => congrArg _ (funext fun y => congrArg _ (funext fun xs => ?_)))
  cases y <;> rfl
@[simp] theorem dn_slc (a : E) (lo hi : Oe) : E.den G W (.slc a lo hi) = mbind (fz (a.den G W)) fun x => mbind (lo.den G W) fun l => mbind (hi.den G W) fun h => mopt (cutR x l h) := by rw [E.den]
@[simp] theorem dn_bf (f : Bf) (es : Es) : E.den G W (.bf f es) = mbind (es.den G W) fun xs => mopt (f.den xs) := by rw [E.den]
@[simp] theorem dn_isa (a : E) (T : String) : E.den G W (.isa a T) = mbind (fz (a.den G W)) fun x => mopt ((x.isA T).map fun t => .im (.bl t)) := by rw [E.den]
def mindS : D → D → M Rv
  | .lst xs, y => match allI xs with
    | some [] => mret (.im y)
    | some ns => mret (.im (.int (minI ns)))
    | none => mbad
  | _, _ => mbad
@[simp] theorem dn_mind (a d : E) : E.den G W (.mind a d) = mbind (fz (a.den G W)) fun x => mbind (fz (d.den G W)) fun y => mindS x y := by
  rw [E.den]
  refine congrArg _ (funext fun x => congrArg _ (funext fun y => ?_))
  cases x <;> rfl
def callG : Option (M Rv) → List Ag → M Rv
  | some φ, xs => callM φ xs
  | none, _ => mbad
@[simp] theorem callG_s (φ : M Rv) (xs : List Ag) : callG (some φ) xs = callM φ xs := Eq.trans rfl rfl
@[simp] theorem dn_call (k : Nat) (as : As) : E.den G W (.call k as) = mbind (as.den G W) fun xs => callG (G k) xs := by
  rw [E.den]
  refine congrArg _ (funext fun xs => ?_)
  cases G k <;> rfl
def callvS (G : FT) (m : M (List D)) : Rv → M Rv
  | .im (.fn k) => match G k with
    | some φ => mbind m fun xs => callM φ (xs.map .d)
    | none => mbad
  | _ => mbad
theorem callvS_f {m : M (List D)} {k : Nat} {φ : M Rv} (h : G k = some φ) : callvS G m (.im (.fn k)) = mbind m fun xs => callM φ (xs.map .d) := by
  show (match G k with | some φ => mbind m fun xs => callM φ (xs.map .d) | none => mbad) = _
  rw [h]
@[simp] theorem dn_callv (i : Nat) (es : Es) : E.den G W (.callv i es) = mbind (rd i) (callvS G (es.den G W)) := by
  rw [E.den]
  refine congrArg _ (funext fun x => ?_)
  cases x with
  | nw _ => rfl
  | im d => cases d <;> rfl
@[simp] theorem dn_comp (it : It) (g : Tg) (ts : Ts) (e : E) (vs : List Nat) : E.den G W (.comp it g ts e vs) = compM (it.den G W) (fun d => g.den G W (.im d)) (ts.allD G W) (fz (e.den G W)) vs := by rw [E.den]
def popS (i : Nat) (xs : List D) : Option D → M Rv
  | some x => mbind (wr i xs.dropLast) fun _ => mret (.im x)
  | none => mbad
@[simp] theorem popS_s (i : Nat) (xs : List D) (x : D) : popS i xs (some x) = mbind (wr i xs.dropLast) fun _ => mret (.im x) := Eq.trans rfl rfl
@[simp] theorem dn_pop (i : Nat) : E.den G W (.pop i) = mbind (own i) fun xs => popS i xs xs.getLast? := by
  rw [E.den]
  refine congrArg _ (funext fun xs => ?_)
  unfold popS
  rfl
@[simp] theorem dn_olen (i : Nat) : E.den G W (.olen i) = mbind (own i) fun xs => mret (.im (.int xs.length)) := by rw [E.den]
@[simp] theorem dn_gcd (es : Es) : E.den G W (.gcd es) = mbind (es.den G W) fun xs => mopt (dGcd xs) := by rw [E.den]
@[simp] theorem f_gcd (i j : Int) : dGcd [.int i, .int j] = some (.im (.int ((Nat.gcd i.natAbs j.natAbs : Nat) : Int))) := Eq.trans rfl rfl
@[simp] theorem dn_callk (k : Nat) (ns : List Str) (pm : List Nat) (es : Es) : E.den G W (.callk k ns pm es) = mbind (es.den G W) fun xs => callG (G k) ((permL pm xs).map .d) := by
  rw [E.den]
  refine congrArg _ (funext fun xs => ?_)
  cases G k <;> rfl
@[simp] theorem pl0 {α : Type} (xs : List α) : permL [] xs = [] := Eq.trans rfl rfl
def plS {α : Type} (pm : List Nat) (xs : List α) : Option α → List α
  | some x => x :: permL pm xs
  | none => permL pm xs
@[simp] theorem plS_s {α : Type} (pm : List Nat) (xs : List α) (x : α) : plS pm xs (some x) = x :: permL pm xs := Eq.trans rfl rfl
@[simp] theorem pl1 {α : Type} (i : Nat) (pm : List Nat) (xs : List α) : permL (i :: pm) xs = plS pm xs xs[i]? := by
  rw [permL]
  unfold plS
  rfl
@[simp] theorem dn_sset (e : E) : E.den G W (.sset e) = mbind (fz (e.den G W)) fun x => mopt (ssetD [x]) := by rw [E.den]
@[simp] theorem dn_bad : E.den G W .bad = mbad := by rw [E.den]
@[simp] theorem dn_rev (e : E) : E.den G W (.rev e) = mbind (fz (e.den G W)) fun x => mopt (revD x) := by rw [E.den]
@[simp] theorem dn_es0 : Es.den G W .nil = mret [] := by rw [Es.den]
@[simp] theorem dn_es1 (e : E) (es : Es) : Es.den G W (.cons e es) = mbind (fz (e.den G W)) fun x => mbind (es.den G W) fun xs => mret (x :: xs) := by rw [Es.den]
@[simp] theorem dn_an1 (e : E) : Es.andD G W (.cons e .nil) = e.den G W := by rw [Es.andD]
def anS (k : M Rv) (x : D) : Option Bool → M Rv
  | some true => k
  | some false => mret (.im x)
  | none => mbad
@[simp] theorem anS_t (k : M Rv) (x : D) : anS k x (some true) = k := Eq.trans rfl rfl
@[simp] theorem anS_f (k : M Rv) (x : D) : anS k x (some false) = mret (.im x) := Eq.trans rfl rfl
def orS (k : M Rv) (x : D) : Option Bool → M Rv
  | some false => k
  | some true => mret (.im x)
  | none => mbad
@[simp] theorem orS_t (k : M Rv) (x : D) : orS k x (some true) = mret (.im x) := Eq.trans rfl rfl
@[simp] theorem orS_f (k : M Rv) (x : D) : orS k x (some false) = k := Eq.trans rfl rfl
@[simp] theorem dn_an2 (e e2 : E) (es : Es) : Es.andD G W (.cons e (.cons e2 es)) = mbind (fz (e.den G W)) fun x => anS ((Es.cons e2 es).andD G W) x x.truth := by
  rw [Es.andD]
  refine congrArg _ (funext fun x => ?_)
  unfold anS
  rfl
@[simp] theorem dn_or1 (e : E) : Es.orD G W (.cons e .nil) = e.den G W := by rw [Es.orD]
@[simp] theorem dn_or2 (e e2 : E) (es : Es) : Es.orD G W (.cons e (.cons e2 es)) = mbind (fz (e.den G W)) fun x => orS ((Es.cons e2 es).orD G W) x x.truth := by
  rw [Es.orD]
  refine congrArg _ (funext fun x => ?_)
  unfold orS
  rfl
@[simp] theorem dn_as0 : As.den G W .nil = mret [] := by rw [As.den]
@[simp] theorem dn_as1 (e : E) (r : As) : As.den G W (.e e r) = mbind (fz (e.den G W)) fun x => mbind (r.den G W) fun xs => mret (.d x :: xs) := by rw [As.den]
@[simp] theorem dn_as2 (i : Nat) (r : As) : As.den G W (.io i r) = mbind (own i) fun _ => mbind (r.den G W) fun xs => mret (.io i :: xs) := by rw [As.den]
@[simp] theorem dn_oe0 : Oe.den G W .none = mret none := by rw [Oe.den]
def oeS : D → M (Option Int)
  | .int i => mret (some i)
  | _ => mbad
@[simp] theorem oeS_i (i : Int) : oeS (.int i) = mret (some i) := Eq.trans rfl rfl
@[simp] theorem dn_oe1 (e : E) : Oe.den G W (.some e) = mbind (fz (e.den G W)) oeS := by
  rw [Oe.den]
  refine congrArg _ (funext fun x => ?_)
  cases x <;> rfl
@[simp] theorem dn_te (e : E) : T.den G W (.e e) = mbind (fz (e.den G W)) fun x => mopt x.truth := by rw [T.den]
@[simp] theorem dn_t2 (o : C2) (a b : E) : T.den G W (.c2 o a b) = mbind (fz (a.den G W)) fun x => mbind (fz (b.den G W)) fun y => mopt (o.den x y) := by rw [T.den]
@[simp] theorem dn_t3 (o o' : C2) (a b c : E) : T.den G W (.c3 o o' a b c) = mbind (fz (a.den G W)) fun x => mbind (fz (b.den G W)) fun y => mbind (mopt (o.den x y)) (iteS (mbind (fz (c.den G W)) fun z => mopt (o'.den y z)) (mret false)) := by
  rw [T.den]
  refine congrArg _ (funext fun x => congrArg _ (funext fun y => congrArg _ (funext fun t => ?_)))
  cases t <;> rfl
@[simp] theorem dn_tn (t : T) : T.den G W (.not t) = mbind (t.den G W) fun k => mret (!k) := by rw [T.den]
@[simp] theorem dn_ta (ts : Ts) : T.den G W (.and ts) = ts.allD G W := by rw [T.den]
@[simp] theorem dn_to (ts : Ts) : T.den G W (.or ts) = ts.anyD G W := by rw [T.den]
@[simp] theorem dn_tonil (neg : Bool) (i : Nat) : T.den G W (.onil neg i) = mbind (own i) (onilS neg) := by rw [T.den]
@[simp] theorem dn_al0 : Ts.allD G W .nil = mret true := by rw [Ts.allD]
@[simp] theorem dn_al1 (t : T) (ts : Ts) : Ts.allD G W (.cons t ts) = mbind (t.den G W) (iteS (ts.allD G W) (mret false)) := by
  rw [Ts.allD]
  refine congrArg _ (funext fun x => ?_)
  cases x <;> rfl
@[simp] theorem dn_ay0 : Ts.anyD G W .nil = mret false := by rw [Ts.anyD]
@[simp] theorem dn_ay1 (t : T) (ts : Ts) : Ts.anyD G W (.cons t ts) = mbind (t.den G W) (iteS (mret true) (ts.anyD G W)) := by
  rw [Ts.anyD]
  refine congrArg _ (funext fun x => ?_)
  cases x <;> rfl
@[simp] theorem dn_seq (e : E) : It.den G W (.seq e) = mbind (fz (e.den G W)) fun x => mopt x.seq? := by rw [It.den]
def r1S : D → M (List D)
  | .int j => if ok62 j = true then mret (rngL 0 j.toNat) else mbad
  | _ => mbad
theorem r1S_ok {j : Int} (h : ok62 j = true) : r1S (.int j) = mret (rngL 0 j.toNat) := by
  show (if ok62 j = true then mret (rngL 0 j.toNat) else mbad) = _
  rw [if_pos h]
@[simp] theorem dn_r1 (a : E) : It.den G W (.r1 a) = mbind (fz (a.den G W)) r1S := by
  rw [It.den]
  refine congrArg _ (funext fun x => ?_)
  cases x <;> rfl
def r2S : D → D → M (List D)
  | .int i, .int j => if ok62 i = true ∧ ok62 j = true then mret (rngL i (j - i).toNat) else mbad
  | _, _ => mbad
theorem r2S_ok {i j : Int} (h : ok62 i = true) (h2 : ok62 j = true) : r2S (.int i) (.int j) = mret (rngL i (j - i).toNat) := by
  show (if ok62 i = true ∧ ok62 j = true then mret (rngL i (j - i).toNat) else mbad) = _
  rw [if_pos ⟨h, h2⟩]
@[simp] theorem dn_r2 (a b : E) : It.den G W (.r2 a b) = mbind (fz (a.den G W)) fun x => mbind (fz (b.den G W)) fun y => r2S x y := by
  rw [It.den]
  refine congrArg _ (funext fun x => congrArg _ (funext fun y => ?_))
  cases x <;> cases y <;> rfl
@[simp] theorem dn_enum (e : E) : It.den G W (.enum e) = mbind (fz (e.den G W)) fun x => mopt (x.seq?.map (enumL 0)) := by rw [It.den]
@[simp] theorem dn_nm (i : Nat) (r : Rv) : Tg.den G W (.nm i) r = st i r := by rw [Tg.den]
def tsubS (i : Nat) (xs : List D) (r : Rv) : D → M Unit
  | .int k => match ixN xs.length k with
    | some j => wr i (xs.set j r.d)
    | none => mbad
  | _ => mbad
theorem tsubS_i {i : Nat} {xs : List D} {r : Rv} {k : Int} {j : Nat} (h : ixN xs.length k = some j) : tsubS i xs r (.int k) = wr i (xs.set j r.d) := by
  show (match ixN xs.length k with | some j => wr i (xs.set j r.d) | none => mbad) = _
  rw [h]
@[simp] theorem dn_tsub (i : Nat) (e : E) (r : Rv) : Tg.den G W (.sub i e) r = mbind (own i) fun _ => mbind (fz (e.den G W)) fun y => mbind (own i) fun xs => tsubS i xs r y := by
  rw [Tg.den]
  refine congrArg _ (funext fun x => congrArg _ (funext fun y => congrArg _ (funext fun xs => ?_)))
  cases y <;> rfl
@[simp] theorem dn_ttup (gs : Tgs) (xs : List D) : Tg.den G W (.tup gs) (.im (.tup xs)) = if xs.length = gs.len then gs.den G W xs else mbad := by rw [Tg.den]
@[simp] theorem dn_tg0 : Tgs.den G W .nil [] = mret () := by rw [Tgs.den]
@[simp] theorem dn_tg1 (g : Tg) (gs : Tgs) (x : D) (xs : List D) : Tgs.den G W (.cons g gs) (x :: xs) = mbind (g.den G W (.im x)) fun _ => gs.den G W xs := by rw [Tgs.den]
@[simp] theorem tl0 : Tgs.len .nil = 0 := Eq.trans rfl rfl
@[simp] theorem tl1 (g : Tg) (gs : Tgs) : Tgs.len (.cons g gs) = gs.len + 1 := Eq.trans rfl rfl
end
end Pu
/-! Pu, part 25: statements, calls, loops read by simp. -/
namespace Pu
open PySem PySem.Spec PyProof.Rows L2
@[simp] theorem tf_ok {α : Type} (a : α) (ρ : Env) (k : α → Env → Fl) : toFl (.ok a ρ) k = k a ρ := Eq.trans rfl rfl
@[simp] theorem tf_bad {α : Type} (k : α → Env → Fl) : toFl (.bad : Res α) k = .bad := Eq.trans rfl rfl
def Fl.sq (f : Fl) (k : Env → Fl) : Fl := match f with
  | .nx ρ => k ρ
  | x => x
@[simp] theorem sq_nx (ρ : Env) (k : Env → Fl) : (Fl.nx ρ).sq k = k ρ := Eq.trans rfl rfl
@[simp] theorem sq_rt (r : Rv) (ρ : Env) (k : Env → Fl) : (Fl.rt r ρ).sq k = .rt r ρ := Eq.trans rfl rfl
@[simp] theorem sq_bk (ρ : Env) (k : Env → Fl) : (Fl.bk ρ).sq k = .bk ρ := Eq.trans rfl rfl
@[simp] theorem sq_ct (ρ : Env) (k : Env → Fl) : (Fl.ct ρ).sq k = .ct ρ := Eq.trans rfl rfl
def ifS (a b : Env → Fl) (k : Bool) (ρ : Env) : Fl := match k with
  | true => a ρ
  | false => b ρ
@[simp] theorem ifS_t (a b : Env → Fl) (ρ : Env) : ifS a b true ρ = a ρ := Eq.trans rfl rfl
@[simp] theorem ifS_f (a b : Env → Fl) (ρ : Env) : ifS a b false ρ = b ρ := Eq.trans rfl rfl
section
variable (G : FT) (W : CT) (fu : Nat)
@[simp] theorem ds_asg (g : Tg) (e : E) (ρ : Env) : S.den G W fu (.asg g e) ρ = toFl (mbind (e.den G W) (g.den G W) ρ) fun _ ρ' => .nx ρ' := by rw [S.den]
@[simp] theorem ds_par (i j : Nat) (a b : E) (ρ : Env) : S.den G W fu (.par i j a b) ρ = toFl (mbind (a.den G W) (fun x => mbind (b.den G W) fun y => mbind (st i x) fun _ => st j y) ρ) fun _ ρ' => .nx ρ' := by rw [S.den]
def p3S (i j l : Nat) : List D → M Unit
  | [x, y, z] => mbind (st i (.im x)) fun _ => mbind (st j (.im y)) fun _ => st l (.im z)
  | _ => mbad
@[simp] theorem p3S_3 (i j l : Nat) (x y z : D) : p3S i j l [x, y, z] = mbind (st i (.im x)) fun _ => mbind (st j (.im y)) fun _ => st l (.im z) := Eq.trans rfl rfl
@[simp] theorem ds_par3 (i j l : Nat) (es : Es) (ρ : Env) : S.den G W fu (.par3 i j l es) ρ = toFl (mbind (es.den G W) (p3S i j l) ρ) fun _ ρ' => .nx ρ' := by
  rw [S.den]
  rfl
@[simp] theorem ds_aug (i : Nat) (o : B2) (e : E) (ρ : Env) : S.den G W fu (.aug i o e) ρ = toFl (mbind (rd i) (fun x => mbind (fz (e.den G W)) fun y => mbind (mopt (o.aug x.d y)) fun z => st i z) ρ) fun _ ρ' => .nx ρ' := by rw [S.den]
def oaS (i : Nat) (o : B2) (m : M D) (xs : List D) : D → M Unit
  | .int k => match ixN xs.length k with
    | some n => match xs[n]? with
      | some x => mbind m fun z => mbind (mopt (o.aug x z)) fun r => mbind (own i) fun xs' => if xs'.length = xs.length then wr i (xs'.set n r.d) else mbad
      | none => mbad
    | none => mbad
  | _ => mbad
theorem oaS_i {i : Nat} {o : B2} {m : M D} {xs : List D} {k : Int} {n : Nat} {x : D} (h : ixN xs.length k = some n) (h2 : xs[n]? = some x) : oaS i o m xs (.int k) = mbind m fun z => mbind (mopt (o.aug x z)) fun r => mbind (own i) fun xs' => if xs'.length = xs.length then wr i (xs'.set n r.d) else mbad := by
  unfold oaS
  simp only [h, h2]
@[simp] theorem ds_oaug (i : Nat) (j : E) (o : B2) (e : E) (ρ : Env) : S.den G W fu (.oaug i j o e) ρ = toFl (mbind (own i) (fun _ => mbind (fz (j.den G W)) fun y => mbind (own i) fun xs => oaS i o (fz (e.den G W)) xs y) ρ) fun _ ρ' => .nx ρ' := by
  rw [S.den]
  rfl
@[simp] theorem ds_app (i : Nat) (e : E) (ρ : Env) : S.den G W fu (.app i e) ρ = toFl (mbind (own i) (fun _ => mbind (fz (e.den G W)) fun y => mbind (own i) fun xs => if xs.length < sizeLine then wr i (xs ++ [y]) else mbad) ρ) fun _ ρ' => .nx ρ' := by rw [S.den]
@[simp] theorem ds_ex (e : E) (ρ : Env) : S.den G W fu (.ex e) ρ = toFl (e.den G W ρ) fun _ ρ' => .nx ρ' := by rw [S.den]
@[simp] theorem ds_ret (e : E) (ρ : Env) : S.den G W fu (.ret e) ρ = toFl (e.den G W ρ) fun r ρ' => .rt r ρ' := by rw [S.den]
@[simp] theorem ds_retn (ρ : Env) : S.den G W fu .retn ρ = .rt (.im .non) ρ := by rw [S.den]
@[simp] theorem ds_ifs (t : T) (a b : Ss) (ρ : Env) : S.den G W fu (.ifs t a b) ρ = toFl (t.den G W ρ) (ifS (a.den G W fu) (b.den G W fu)) := by
  rw [S.den]
  rfl
@[simp] theorem ds_for (g : Tg) (it : It) (b : Ss) (ρ : Env) : S.den G W fu (.fors g it b) ρ = toFl (it.den G W ρ) fun ds ρ' => forL (fun d => g.den G W (.im d)) (b.den G W fu) ds ρ' := by rw [S.den]
@[simp] theorem ds_while (t : T) (b : Ss) (ρ : Env) : S.den G W fu (.whil t b) ρ = whileL (t.den G W) (b.den G W fu) fu ρ := by rw [S.den]
@[simp] theorem ds_pass (ρ : Env) : S.den G W fu .pass ρ = .nx ρ := by rw [S.den]
@[simp] theorem ds_brk (ρ : Env) : S.den G W fu .brk ρ = .bk ρ := by rw [S.den]
@[simp] theorem ds_cont (ρ : Env) : S.den G W fu .cont ρ = .ct ρ := by rw [S.den]
@[simp] theorem ds_nil (ρ : Env) : Ss.den G W fu .nil ρ = .nx ρ := by rw [Ss.den]
@[simp] theorem ds_wipe (is : List Nat) (r : Ss) (ρ : Env) : Ss.den G W fu (.wipe is r) ρ = r.den G W fu (wipeE ρ is) := by rw [Ss.den]
@[simp] theorem ds_cons (s : S) (r : Ss) (ρ : Env) : Ss.den G W fu (.cons s r) ρ = (s.den G W fu ρ).sq (r.den G W fu) := by
  rw [Ss.den]
  unfold Fl.sq
  rfl
end
/-! ### calls -/
def outS {α : Type} (o : Option α) (k : α → Res Rv) : Res Rv := match o with
  | some a => k a
  | none => .bad
@[simp] theorem outS_s {α : Type} (a : α) (k : α → Res Rv) : outS (some a) k = k a := Eq.trans rfl rfl
def Res.cl (r : Res Rv) (f : Env → Option Env) : Res Rv := match r with
  | .ok r o => outS (f o) fun ρ => .ok r ρ
  | .exc x o => outS (f o) fun ρ => .exc x ρ
  | .bad => .bad
@[simp] theorem cl_ok (r : Rv) (o : Env) (f : Env → Option Env) : (Res.ok r o).cl f = outS (f o) fun ρ => .ok r ρ := Eq.trans rfl rfl
@[simp] theorem callM_ap (φ : M Rv) (as : List Ag) (ρ : Env) : callM φ as ρ = outS (if nodupB (iosOf as) = true then agsIn ρ as else none) fun args => (φ args).cl (agsOut ρ as) := by
  unfold callM outS
  split
  · rename_i h; rw [h]
  · rename_i args h
    rw [h]
    show _ = (φ args).cl (agsOut ρ as)
    cases φ args with
    | ok r o => show (match agsOut ρ as o with | some ρ' => Res.ok r ρ' | none => Res.bad) = outS (agsOut ρ as o) fun ρ => .ok r ρ; cases agsOut ρ as o <;> rfl
    | exc r o => show (match agsOut ρ as o with | some ρ' => Res.exc r ρ' | none => Res.bad) = outS (agsOut ρ as o) fun ρ => .exc r ρ; cases agsOut ρ as o <;> rfl
    | bad => rfl
@[simp] theorem ios0 : iosOf [] = [] := Eq.trans rfl rfl
@[simp] theorem ios1 (d : D) (r : List Ag) : iosOf (.d d :: r) = iosOf r := Eq.trans rfl rfl
@[simp] theorem ios2 (i : Nat) (r : List Ag) : iosOf (.io i :: r) = i :: iosOf r := Eq.trans rfl rfl
@[simp] theorem nd0 : nodupB [] = true := Eq.trans rfl rfl
@[simp] theorem nd1 (i : Nat) : nodupB [i] = true := Eq.trans rfl rfl
@[simp] theorem ai0 (ρ : Env) : agsIn ρ [] = some [] := Eq.trans rfl rfl
@[simp] theorem ai1 (ρ : Env) (d : D) (r : List Ag) : agsIn ρ (.d d :: r) = (agsIn ρ r).map (Sl.im d :: ·) := by rw [agsIn]
def aiS : Option Sl → Option (List Sl) → Option (List Sl)
  | some (.ow xs), r => r.map (Sl.io xs :: ·)
  | some (.io xs), r => r.map (Sl.io xs :: ·)
  | _, _ => none
@[simp] theorem aiS_ow (xs : List D) (r : Option (List Sl)) : aiS (some (.ow xs)) r = r.map (Sl.io xs :: ·) := Eq.trans rfl rfl
@[simp] theorem aiS_io (xs : List D) (r : Option (List Sl)) : aiS (some (.io xs)) r = r.map (Sl.io xs :: ·) := Eq.trans rfl rfl
@[simp] theorem ai2 (ρ : Env) (i : Nat) (r : List Ag) : agsIn ρ (.io i :: r) = aiS ρ[i]? (agsIn ρ r) := by
  rw [agsIn]
  cases ρ[i]? with
  | none => rfl
  | some s => cases s <;> rfl
@[simp] theorem ao0 (ρ : Env) : agsOut ρ [] [] = some ρ := Eq.trans rfl rfl
@[simp] theorem ao1 (ρ : Env) (d : D) (r : List Ag) (x : Sl) (s : List Sl) : agsOut ρ (.d d :: r) (x :: s) = agsOut ρ r s := by rw [agsOut]
def aoS (ρ : Env) (i : Nat) (xs : List D) (r : List Ag) (s : List Sl) : Option Sl → Option Env
  | some (.ow _) => agsOut (ρ.set i (.ow xs)) r s
  | some (.io _) => agsOut (ρ.set i (.io xs)) r s
  | _ => none
@[simp] theorem aoS_ow (ρ : Env) (i : Nat) (xs a : List D) (r : List Ag) (s : List Sl) : aoS ρ i xs r s (some (.ow a)) = agsOut (ρ.set i (.ow xs)) r s := Eq.trans rfl rfl
@[simp] theorem aoS_io (ρ : Env) (i : Nat) (xs a : List D) (r : List Ag) (s : List Sl) : aoS ρ i xs r s (some (.io a)) = agsOut (ρ.set i (.io xs)) r s := Eq.trans rfl rfl
@[simp] theorem ao2 (ρ : Env) (i : Nat) (xs : List D) (r : List Ag) (s : List Sl) : agsOut ρ (.io i :: r) (.io xs :: s) = aoS ρ i xs r s ρ[i]? := by
  rw [agsOut]
  cases ρ[i]? with
  | none => rfl
  | some s => cases s <;> rfl
@[simp] theorem oo0 (ρ : Env) : outsOf [] ρ = some [] := by rw [outsOf]
@[simp] theorem oo1 (d : D) (r : List Sl) (x : Sl) (ρ : Env) : outsOf (.im d :: r) (x :: ρ) = (outsOf r ρ).map (Sl.no :: ·) := by
  rw [outsOf]
  · cases outsOf r ρ <;> rfl
  all_goals (intros; simp_all)
@[simp] theorem oo2 (ys xs : List D) (r : List Sl) (ρ : Env) : outsOf (.io ys :: r) (.io xs :: ρ) = (outsOf r ρ).map (Sl.io xs :: ·) := by
  rw [outsOf]
  cases outsOf r ρ <;> rfl
def Fl.fn (f : Fl) (args : Env) : Res Rv := match f with
  | .rt r ρ => outS (outsOf args ρ) fun o => .ok r o
  | .nx ρ => outS (outsOf args ρ) fun o => .ok (.im .non) o
  | .exc x ρ => outS (outsOf args ρ) fun o => .exc x o
  | _ => .bad
@[simp] theorem fn_rt (r : Rv) (ρ args : Env) : (Fl.rt r ρ).fn args = outS (outsOf args ρ) fun o => .ok r o := Eq.trans rfl rfl
@[simp] theorem fn_nx (ρ args : Env) : (Fl.nx ρ).fn args = outS (outsOf args ρ) fun o => .ok (.im .non) o := Eq.trans rfl rfl
theorem fn_ap {G : FT} {W : CT} {fu n N : Nat} {b : Ss} {args : Env} (h : args.length = n) : Ss.fn G W fu n N b args = (b.den G W fu (args ++ List.replicate (N - n) .no)).fn args := by
  unfold Ss.fn
  rw [if_pos h]
  cases b.den G W fu (args ++ List.replicate (N - n) .no) with
  | rt r ρ => show (match outsOf args ρ with | some o => Res.ok r o | none => Res.bad) = outS (outsOf args ρ) fun o => .ok r o; cases outsOf args ρ <;> rfl
  | nx ρ => show (match outsOf args ρ with | some o => Res.ok (Rv.im D.non) o | none => Res.bad) = outS (outsOf args ρ) fun o => .ok (Rv.im D.non) o; cases outsOf args ρ <;> rfl
  | exc x ρ => show (match outsOf args ρ with | some o => Res.exc x o | none => Res.bad) = outS (outsOf args ρ) fun o => .exc x o; cases outsOf args ρ <;> rfl
  | _ => rfl
/-! ### loops -/
@[simp] theorem for_nil (g : D → M Unit) (b : Env → Fl) (ρ : Env) : forL g b [] ρ = .nx ρ := by rw [forL]
theorem for_nx {g : D → M Unit} {b : Env → Fl} {d : D} {ds : List D} {ρ ρ1 ρ2 : Env} (h : g d ρ = .ok () ρ1) (h2 : b ρ1 = .nx ρ2) : forL g b (d :: ds) ρ = forL g b ds ρ2 := by
  rw [forL, h]
  simp only [h2]
theorem for_ct {g : D → M Unit} {b : Env → Fl} {d : D} {ds : List D} {ρ ρ1 ρ2 : Env} (h : g d ρ = .ok () ρ1) (h2 : b ρ1 = .ct ρ2) : forL g b (d :: ds) ρ = forL g b ds ρ2 := by
  rw [forL, h]
  simp only [h2]
theorem for_rt {g : D → M Unit} {b : Env → Fl} {d : D} {ds : List D} {ρ ρ1 ρ2 : Env} {r : Rv} (h : g d ρ = .ok () ρ1) (h2 : b ρ1 = .rt r ρ2) : forL g b (d :: ds) ρ = .rt r ρ2 := by
  rw [forL, h]
  simp only [h2]
/-- a loop that runs through, by what holds ahead of each turn -/
theorem for_inv {g : D → M Unit} {b : Env → Fl} (I : List D → Env → Prop) (h : ∀ d ds ρ, I (d :: ds) ρ → ∃ ρ1 ρ2, g d ρ = .ok () ρ1 ∧ (b ρ1 = .nx ρ2 ∨ b ρ1 = .ct ρ2) ∧ I ds ρ2) : ∀ (ds : List D) (ρ : Env), I ds ρ → ∃ ρ', forL g b ds ρ = .nx ρ' ∧ I [] ρ'
  | [], ρ, i => ⟨ρ, for_nil g b ρ, i⟩
  | d :: ds, ρ, i => by
    obtain ⟨ρ1, ρ2, h1, h2, h3⟩ := h d ds ρ i
    obtain ⟨ρ', h4, h5⟩ := for_inv I h ds ρ2 h3
    rcases h2 with h2 | h2
    · exact ⟨ρ', by rw [for_nx h1 h2]; exact h4, h5⟩
    · exact ⟨ρ', by rw [for_ct h1 h2]; exact h4, h5⟩
/-- a comprehension, by what holds between its items -/
theorem comp_inv {g : D → M Unit} {t : M Bool} {e : M D} {vs : List Nat} (I : Env → Prop) (p : D → Bool) (y : D → D) : ∀ (ds acc : List D) (ρ : Env), I ρ → acc.length + ds.length ≤ sizeLine →
    (∀ d ∈ ds, ∀ ρ, I ρ → ∃ ρ1 ρ2, g d (wipeE ρ vs) = .ok () ρ1 ∧ t ρ1 = .ok (p d) ρ2 ∧ (p d = true → ∃ ρ3, e ρ2 = .ok (y d) ρ3 ∧ I ρ3) ∧ (p d = false → I ρ2)) → ∃ ρ', compL g t e vs ds acc ρ = .ok (acc ++ (ds.filter p).map y) ρ' ∧ I ρ'
  | [], acc, ρ, i, hl, h => ⟨ρ, by rw [compL]; simp, i⟩
  | d :: ds, acc, ρ, i, hl, h => by
    rw [List.length_cons] at hl
    obtain ⟨ρ1, ρ2, h1, h2, h3, h4⟩ := h d List.mem_cons_self ρ i
    have hr := fun d' hd => h d' (List.mem_cons_of_mem _ hd)
    cases q : p d with
    | true =>
      obtain ⟨ρ3, h5, h6⟩ := h3 q
      obtain ⟨ρ', h7, h8⟩ := comp_inv I p y ds (acc ++ [y d]) ρ3 h6 (by rw [List.length_append]; simp only [List.length_cons, List.length_nil]; omega) hr
      refine ⟨ρ', ?_, h8⟩
      rw [q] at h2
      rw [compL]
      simp only [h1, h2, h5]
      rw [if_pos (by omega), h7, List.filter_cons_of_pos q, List.map_cons, List.append_assoc]
      rfl
    | false =>
      obtain ⟨ρ', h7, h8⟩ := comp_inv I p y ds acc ρ2 (h4 q) (by omega) hr
      refine ⟨ρ', ?_, h8⟩
      rw [q] at h2
      rw [compL]
      simp only [h1, h2]
      rw [h7, List.filter_cons_of_neg (by rw [q]; decide)]
def cmS (g : D → M Unit) (t : M Bool) (e : M D) (vs : List Nat) (ρ1 : Env) (r : Res (List D)) : Res Rv := match r with
  | .ok ys ρ2 => .ok (.nw ys) (backE ρ1 ρ2 vs)
  | _ => .bad
theorem comp_ap {m : M (List D)} {g : D → M Unit} {t : M Bool} {e : M D} {vs : List Nat} {ρ ρ1 ρ2 : Env} {ds ys : List D} (h1 : m ρ = .ok ds ρ1) (h2 : noOwn ρ1 vs = true) (h3 : compL g t e vs ds [] ρ1 = .ok ys ρ2) : compM m g t e vs ρ = .ok (.nw ys) (backE ρ1 ρ2 vs) := by
  unfold compM
  rw [h1]
  simp only [if_pos h2, h3]
/-! ### operators on what they know -/
@[simp] theorem b_add (i j : Int) : B2.add.den (.int i) (.int j) = some (.im (.int (i + j))) := Eq.trans rfl rfl
@[simp] theorem b_sub (i j : Int) : B2.sub.den (.int i) (.int j) = some (.im (.int (i - j))) := Eq.trans rfl rfl
theorem b_cat (xs ys : List D) : B2.add.den (.lst xs) (.lst ys) = if xs.length + ys.length ≤ sizeLine then some (.nw (xs ++ ys)) else none := Eq.trans rfl rfl
@[simp] theorem b_mul (i j : Int) : B2.mul.den (.int i) (.int j) = if (-(2 ^ 64) < i ∧ i < 2 ^ 64) ∨ (-(2 ^ 64) < j ∧ j < 2 ^ 64) then some (.im (.int (i * j))) else none := Eq.trans rfl rfl
theorem b_rep (xs : List D) (k : Int) : B2.mul.den (.lst xs) (.int k) = if -(2 ^ 63) ≤ k ∧ k < 2 ^ 63 ∧ xs.length * k.toNat ≤ sizeLine then some (.nw (List.replicate k.toNat xs).flatten) else none := Eq.trans rfl rfl
@[simp] theorem b_fdiv (i j : Int) : B2.fdiv.den (.int i) (.int j) = if 0 < j ∧ j < 1073741824 then some (.im (.int (i / j))) else none := Eq.trans rfl rfl
@[simp] theorem b_mod (i j : Int) : B2.mod.den (.int i) (.int j) = if 0 < j then some (.im (.int (i % j))) else none := Eq.trans rfl rfl
@[simp] theorem b_pow (i j : Int) : B2.pow.den (.int i) (.int j) = if 0 ≤ j ∧ j ≤ 1000000 ∧ i.natAbs < 2 ^ 64 then some (.im (.int (i ^ j.toNat))) else none := Eq.trans rfl rfl
@[simp] theorem a_add (i j : Int) : B2.add.aug (.int i) (.int j) = some (.im (.int (i + j))) := Eq.trans rfl rfl
@[simp] theorem a_sub (i j : Int) : B2.sub.aug (.int i) (.int j) = some (.im (.int (i - j))) := Eq.trans rfl rfl
@[simp] theorem c_lt (i j : Int) : C2.lt.den (.int i) (.int j) = some (decide (i < j)) := Eq.trans rfl rfl
@[simp] theorem c_le (i j : Int) : C2.le.den (.int i) (.int j) = some (decide (i ≤ j)) := Eq.trans rfl rfl
@[simp] theorem c_gt (i j : Int) : C2.gt.den (.int i) (.int j) = some (decide (j < i)) := Eq.trans rfl rfl
@[simp] theorem c_ge (i j : Int) : C2.ge.den (.int i) (.int j) = some (decide (j ≤ i)) := Eq.trans rfl rfl
@[simp] theorem c_eqd (x y : D) : C2.eq.den x y = x.eq? y := Eq.trans rfl rfl
@[simp] theorem c_ned (x y : D) : C2.ne.den x y = (x.eq? y).map (!·) := Eq.trans rfl rfl
@[simp] theorem q_ii (i j : Int) : D.eq? (.int i) (.int j) = some (decide (i = j)) := Eq.trans rfl rfl
@[simp] theorem q_nn : D.eq? .non .non = some true := Eq.trans rfl rfl
@[simp] theorem q_bb (i j : Bool) : D.eq? (.bl i) (.bl j) = some (decide (i = j)) := Eq.trans rfl rfl
@[simp] theorem q_ss (i j : Str) : D.eq? (.str i) (.str j) = some (decide (i = j)) := Eq.trans rfl rfl
@[simp] theorem q_ni (i : Int) : D.eq? .non (.int i) = some false := Eq.trans rfl rfl
@[simp] theorem q_in (i : Int) : D.eq? (.int i) .non = some false := Eq.trans rfl rfl
@[simp] theorem c_isn0 : C2.is.den .non .non = some true := Eq.trans rfl rfl
@[simp] theorem c_isn1 (i : Int) : C2.is.den (.int i) .non = some false := Eq.trans rfl rfl
@[simp] theorem c_isn2 : C2.isn.den .non .non = some false := Eq.trans rfl rfl
@[simp] theorem c_isn3 (i : Int) : C2.isn.den (.int i) .non = some true := Eq.trans rfl rfl
@[simp] theorem c_isb (a b : Bool) : C2.is.den (.bl a) (.bl b) = some (decide (a = b)) := Eq.trans rfl rfl
@[simp] theorem c_isnb (a b : Bool) : C2.isn.den (.bl a) (.bl b) = some (!decide (a = b)) := Eq.trans rfl rfl
@[simp] theorem tr_b (b : Bool) : D.truth (.bl b) = some b := Eq.trans rfl rfl
@[simp] theorem tr_i (i : Int) : D.truth (.int i) = some (i != 0) := Eq.trans rfl rfl
@[simp] theorem tr_n : D.truth .non = some false := Eq.trans rfl rfl
@[simp] theorem sq_t (xs : List D) : D.seq? (.tup xs) = some xs := Eq.trans rfl rfl
@[simp] theorem sq_l (xs : List D) : D.seq? (.lst xs) = some xs := Eq.trans rfl rfl
@[simp] theorem sq_r (xs : List D) : D.seq? (.rol xs) = some xs := Eq.trans rfl rfl
@[simp] theorem cn_i (i : Int) : Cn.d (.int i) = .int i := Eq.trans rfl rfl
@[simp] theorem cn_n : Cn.d .non = .non := Eq.trans rfl rfl
@[simp] theorem cn_b (b : Bool) : Cn.d (.bl b) = .bl b := Eq.trans rfl rfl
@[simp] theorem cn_s (x : Str) : Cn.d (.str x) = .str x := Eq.trans rfl rfl
@[simp] theorem f_int (i : Int) : Bf.int.den [.int i] = some (.im (.int i)) := Eq.trans rfl rfl
@[simp] theorem f_abs (i : Int) : Bf.abs.den [.int i] = some (.im (.int (if i < 0 then -i else i))) := Eq.trans rfl rfl
@[simp] theorem f_lent (xs : List D) : Bf.len.den [.tup xs] = some (.im (.int xs.length)) := Eq.trans rfl rfl
@[simp] theorem f_lenl (xs : List D) : Bf.len.den [.lst xs] = some (.im (.int xs.length)) := Eq.trans rfl rfl
@[simp] theorem f_lenr (xs : List D) : Bf.len.den [.rol xs] = some (.im (.int xs.length)) := Eq.trans rfl rfl
@[simp] theorem f_divmod (i j : Int) : Bf.divmod.den [.int i, .int j] = if 0 < j ∧ j < 1073741824 then some (.im (.tup [.int (i / j), .int (i % j)])) else none := Eq.trans rfl rfl
@[simp] theorem f_max2 (i j : Int) : Bf.max2.den [.int i, .int j] = some (.im (.int (if j > i then j else i))) := Eq.trans rfl rfl
@[simp] theorem f_min2 (i j : Int) : Bf.min2.den [.int i, .int j] = some (.im (.int (if j < i then j else i))) := Eq.trans rfl rfl
@[simp] theorem f_tuple (xs : List D) : Bf.tuple.den [.lst xs] = some (.im (.tup xs)) := Eq.trans rfl rfl
@[simp] theorem isA_int (i : Int) (T : String) : D.isA T (.int i) = some (T == "int" || T == "object") := Eq.trans rfl rfl
@[simp] theorem isA_tup (xs : List D) (T : String) : D.isA T (.tup xs) = some (T == "tuple" || T == "object") := Eq.trans rfl rfl
theorem ixN_nat {n i : Nat} (h : i < n) : ixN n (i : Int) = some i := by
  unfold ixN
  simp
  omega
end Pu
/-! Pu, part 26: == of rows of numbers. -/
namespace Pu
open PySem PySem.Spec PyProof.Rows L2
theorem pys_map : ∀ ns : List Int, D.pys (ns.map D.int) = some (ns.map PyData.int)
  | [] => rfl
  | n :: ns => by
    rw [List.map_cons, D.pys, D.py, pys_map ns]
    rfl
theorem lay_ints : ∀ ns : List Int, PyData.canLayAll0 (ns.map PyData.int) = true
  | [] => by simp only [List.map_nil, PyData.canLayAll0]
  | n :: ns => by simp only [List.map_cons, PyData.canLayAll0, PyData.canLay0, lay_ints ns, Bool.and_self]
theorem deep_ints : ∀ ns : List Int, PyData.depthAll (ns.map PyData.int) = 0
  | [] => by simp only [List.map_nil, PyData.depthAll]
  | n :: ns => by simp only [List.map_cons, PyData.depthAll, PyData.depth, deep_ints ns, Nat.max_self]
theorem shaped_t (ns : List Int) : SeqAt.shaped (.tuple (ns.map PyData.int)) = true := by
  unfold SeqAt.shaped
  simp only [PyData.canLay0, PyData.depth, lay_ints, deep_ints]
  decide
theorem shaped_l (ns : List Int) : SeqAt.shaped (.list (ns.map PyData.int)) = true := by
  unfold SeqAt.shaped
  simp only [PyData.canLay0, PyData.depth, lay_ints, deep_ints]
  decide
theorem eqv_ints : ∀ xs ys : List Int, PyData.eqvAll (xs.map PyData.int) (ys.map PyData.int) = decide (xs = ys)
  | [], [] => by simp [PyData.eqvAll]
  | [], y :: ys => by simp [PyData.eqvAll]
  | x :: xs, [] => by simp [PyData.eqvAll]
  | x :: xs, y :: ys => by
    simp only [List.map_cons, PyData.eqvAll, PyData.eqv, eqv_ints xs ys]
    rw [Bool.eq_iff_iff]
    simp
theorem eq_tups (xs ys : List Int) : D.eq? (.tup (xs.map D.int)) (.tup (ys.map D.int)) = some (decide (xs = ys)) := by
  show (match D.py (.tup (xs.map D.int)), D.py (.tup (ys.map D.int)) with | some d, some e => if SeqAt.shaped d = true ∧ SeqAt.shaped e = true then some (PyData.eqv d e) else none | _, _ => none) = _
  have h : ∀ ns : List Int, D.py (.tup (ns.map D.int)) = some (.tuple (ns.map PyData.int)) := fun ns => by rw [D.py, pys_map]
  rw [h xs, h ys]
  simp only [shaped_t, and_self, if_true]
  rw [← eqv_ints]
  simp only [PyData.eqv]
theorem eq_lsts (xs ys : List Int) : D.eq? (.lst (xs.map D.int)) (.lst (ys.map D.int)) = some (decide (xs = ys)) := by
  show (match D.py (.lst (xs.map D.int)), D.py (.lst (ys.map D.int)) with | some d, some e => if SeqAt.shaped d = true ∧ SeqAt.shaped e = true then some (PyData.eqv d e) else none | _, _ => none) = _
  have h : ∀ ns : List Int, D.py (.lst (ns.map D.int)) = some (.list (ns.map PyData.int)) := fun ns => by rw [D.py, pys_map]
  rw [h xs, h ys]
  simp only [shaped_l, and_self, if_true]
  rw [← eqv_ints]
  simp only [PyData.eqv]
theorem atI_nt {α : Type} {xs : List α} {i : Nat} (h : i < xs.length) : atI xs (i : Int) = some xs[i] := by
  unfold atI
  rw [ixN_nat h]
  simp [h]
theorem atI_int {α : Type} {xs : List α} {i : Int} (h0 : 0 ≤ i) (h : i < xs.length) : atI xs i = xs[i.toNat]? := by
  have hl : i.toNat < xs.length := by omega
  have e := atI_nt hl
  rw [Int.toNat_of_nonneg h0] at e
  rw [e, List.getElem?_eq_getElem hl]
theorem cut_pre (xs : List D) (i : Nat) (h : i ≤ xs.length) : cutR (.tup xs) none (some (i : Int)) = some (.im (.tup (xs.take i))) := by
  show some (Rv.im (.tup ((xs.drop (HT.sIx xs.length 0 none)).take (HT.sIx xs.length xs.length (some (i : Int)) - HT.sIx xs.length 0 none)))) = _
  rw [HT.sIx_none, HT.sIx_nat, Nat.min_eq_left h]
  rfl
theorem cut_preR (xs : List D) (i : Nat) : cutR (.rol xs) none (some (i : Int)) = some (.nw (xs.take i)) := by
  show some (Rv.nw ((xs.drop (HT.sIx xs.length 0 none)).take (HT.sIx xs.length xs.length (some (i : Int)) - HT.sIx xs.length 0 none))) = _
  rw [HT.sIx_none, HT.sIx_nat]
  by_cases h : i ≤ xs.length
  · rw [Nat.min_eq_left h]; rfl
  · rw [Nat.min_eq_right (by omega)]
    simp
    rw [List.take_of_length_le (by omega)]
end Pu
namespace K69
open PySem PySem.Spec PyProof.Rows L2 Pu
def tp (i : Nat) : Stmt := PySem.Challenge.pw_changegiven_k69_whole_greedy_beside_chai.main.body.getD i (.Pass ⟨0, 0, 0, 0⟩)
def fu : Nat := 3000000
def kp : List (Nat × List Str × List Nat) := [(28, ["coins"], [0])]
def gb : Bool := true
def fns : List Str := [("is_whole" : Str), ("is_between" : Str), ("is_row" : Str), ("is_coin_behind" : Str), ("first_wrong" : Str), ("wrong_coin" : Str), ("check_coins" : Str), ("is_amount" : Str), ("check_amount" : Str), ("fewest_to" : Str), ("check_paid" : Str), ("fewest_coins" : Str), ("common_of" : Str), ("first_paid" : Str), ("gap_by" : Str), ("last_gap" : Str), ("greedy_many" : Str), ("fault_by" : Str), ("check_with_one" : Str), ("first_fault" : Str), ("is_greedy" : Str), ("left_by" : Str), ("greatest_by" : Str), ("is_chain_by" : Str), ("amounts_in" : Str), ("first_in" : Str), ("all_parts" : Str), ("least_trap_by" : Str), ("is_chain" : Str), ("least_trap" : Str), ("_law_bag" : Str), ("_law_take" : Str), ("_law_pull" : Str), ("_law_coins" : Str), ("_law_with_one" : Str), ("_law_greedily" : Str), ("_law_chain" : Str), ("_law_right" : Str), ("law" : Str)]
def cns : List Str := ["MOST_COINS", "MOST_VALUE", "MOST_AMOUNT", "MOST_IN_TRAP"]
def fv : CT := fun k => [D.int 3, D.int 100, D.int 2000, D.int 5][k]?
abbrev s_is_whole : Stmt := tp 6
def n_is_whole : List Str := ["value"]
def p_is_whole : List Str := ["value"]
def b_is_whole : Ss := (.cons (.ret (.and (.cons (.isa (.v 0) "int") (.cons (.not (.isa (.v 0) "bool")) .nil))))
  .nil)
theorem sc_is_whole : FnScope n_is_whole p_is_whole (defScope s_is_whole) := ⟨rfl, rfl, rfl, by decide +kernel, rfl, by decide +kernel, by decide +kernel⟩
theorem ck_is_whole : b_is_whole.chk ⟨n_is_whole, defScope s_is_whole, true, fns.take 0, cns, gb, kp⟩ (defBody s_is_whole) = true := by decide +kernel
abbrev i_is_whole : Nat := 0
abbrev g_is_whole : List (M Rv) := []
def f_is_whole : M Rv := Ss.fn (gOf []) fv fu 1 1 b_is_whole
theorem u_is_whole (args : Pu.Env) (h : args.length = 1) : f_is_whole args = (b_is_whole.den (gOf g_is_whole) fv fu (args ++ [])).fn args := fn_ap h
abbrev s_is_between : Stmt := tp 7
def n_is_between : List Str := ["value", "least", "most"]
def p_is_between : List Str := ["value", "least", "most"]
def b_is_between : Ss := (.cons (.ret (.and (.cons (.call 0 (.e (.v 0) .nil)) (.cons (.c3 .le .le (.v 1) (.v 0) (.v 2)) .nil))))
  .nil)
theorem sc_is_between : FnScope n_is_between p_is_between (defScope s_is_between) := ⟨rfl, rfl, rfl, by decide +kernel, rfl, by decide +kernel, by decide +kernel⟩
theorem ck_is_between : b_is_between.chk ⟨n_is_between, defScope s_is_between, true, fns.take 1, cns, gb, kp⟩ (defBody s_is_between) = true := by decide +kernel
abbrev i_is_between : Nat := 1
abbrev g_is_between : List (M Rv) := [f_is_whole]
def f_is_between : M Rv := Ss.fn (gOf [f_is_whole]) fv fu 3 3 b_is_between
theorem u_is_between (args : Pu.Env) (h : args.length = 3) : f_is_between args = (b_is_between.den (gOf g_is_between) fv fu (args ++ [])).fn args := fn_ap h
abbrev s_is_row : Stmt := tp 8
def n_is_row : List Str := ["value", "least", "most"]
def p_is_row : List Str := ["value", "least", "most"]
def b_is_row : Ss := (.cons (.ret (.and (.cons (.isa (.v 0) "tuple") (.cons (.c3 .le .le (.v 1) (.bf .len (.cons (.v 0) .nil)) (.v 2)) .nil))))
  .nil)
theorem sc_is_row : FnScope n_is_row p_is_row (defScope s_is_row) := ⟨rfl, rfl, rfl, by decide +kernel, rfl, by decide +kernel, by decide +kernel⟩
theorem ck_is_row : b_is_row.chk ⟨n_is_row, defScope s_is_row, true, fns.take 2, cns, gb, kp⟩ (defBody s_is_row) = true := by decide +kernel
abbrev i_is_row : Nat := 2
abbrev g_is_row : List (M Rv) := [f_is_whole, f_is_between]
def f_is_row : M Rv := Ss.fn (gOf [f_is_whole, f_is_between]) fv fu 3 3 b_is_row
theorem u_is_row (args : Pu.Env) (h : args.length = 3) : f_is_row args = (b_is_row.den (gOf g_is_row) fv fu (args ++ [])).fn args := fn_ap h
abbrev s_is_coin_behind : Stmt := tp 14
def n_is_coin_behind : List Str := ["value", "ahead"]
def p_is_coin_behind : List Str := ["value", "ahead"]
def b_is_coin_behind : Ss := (.cons (.ret (.and (.cons (.call 1 (.e (.v 0) (.e (.c (.int 1)) (.e (.g 1) .nil)))) (.cons (.or (.cons (.c2 .eq (.v 1) (.tup .nil)) (.cons (.c2 .lt (.sub (.v 1) (.neg (.c (.int 1)))) (.v 0)) .nil))) .nil))))
  .nil)
theorem sc_is_coin_behind : FnScope n_is_coin_behind p_is_coin_behind (defScope s_is_coin_behind) := ⟨rfl, rfl, rfl, by decide +kernel, rfl, by decide +kernel, by decide +kernel⟩
theorem ck_is_coin_behind : b_is_coin_behind.chk ⟨n_is_coin_behind, defScope s_is_coin_behind, true, fns.take 3, cns, gb, kp⟩ (defBody s_is_coin_behind) = true := by decide +kernel
abbrev i_is_coin_behind : Nat := 3
abbrev g_is_coin_behind : List (M Rv) := [f_is_whole, f_is_between, f_is_row]
def f_is_coin_behind : M Rv := Ss.fn (gOf [f_is_whole, f_is_between, f_is_row]) fv fu 2 2 b_is_coin_behind
theorem u_is_coin_behind (args : Pu.Env) (h : args.length = 2) : f_is_coin_behind args = (b_is_coin_behind.den (gOf g_is_coin_behind) fv fu (args ++ [])).fn args := fn_ap h
abbrev s_first_wrong : Stmt := tp 9
def n_first_wrong : List Str := ["value", "is_right", "index", "each"]
def p_first_wrong : List Str := ["value", "is_right"]
def l1_first_wrong : Ss := (.cons (.ifs (.not (.e (.callv 1 (.cons (.v 3) (.cons (.slc (.v 0) .none (.some (.v 2))) .nil))))) (.cons (.ret (.v 2))
  .nil) .nil)
  (.wipe [2, 3] .nil))
def w1_first_wrong : S := .fors (.tup (.cons (.nm 2) (.cons (.nm 3) .nil))) (.enum (.v 0)) l1_first_wrong
def b_first_wrong : Ss := (.wipe [2, 3] (.cons (w1_first_wrong)
  (.cons (.ret (.c .non))
  .nil)))
theorem sc_first_wrong : FnScope n_first_wrong p_first_wrong (defScope s_first_wrong) := ⟨rfl, rfl, rfl, by decide +kernel, rfl, by decide +kernel, by decide +kernel⟩
theorem ck_first_wrong : b_first_wrong.chk ⟨n_first_wrong, defScope s_first_wrong, true, fns.take 4, cns, gb, kp⟩ (defBody s_first_wrong) = true := by decide +kernel
abbrev i_first_wrong : Nat := 4
abbrev g_first_wrong : List (M Rv) := [f_is_whole, f_is_between, f_is_row, f_is_coin_behind]
def f_first_wrong : M Rv := Ss.fn (gOf [f_is_whole, f_is_between, f_is_row, f_is_coin_behind]) fv fu 2 4 b_first_wrong
theorem u_first_wrong (args : Pu.Env) (h : args.length = 2) : f_first_wrong args = (b_first_wrong.den (gOf g_first_wrong) fv fu (args ++ [.no, .no])).fn args := fn_ap h
abbrev s_wrong_coin : Stmt := tp 15
def n_wrong_coin : List Str := ["value"]
def p_wrong_coin : List Str := ["value"]
def b_wrong_coin : Ss := (.cons (.ret (.call 4 (.e (.v 0) (.e (.f 3) .nil))))
  .nil)
theorem sc_wrong_coin : FnScope n_wrong_coin p_wrong_coin (defScope s_wrong_coin) := ⟨rfl, rfl, rfl, by decide +kernel, rfl, by decide +kernel, by decide +kernel⟩
theorem ck_wrong_coin : b_wrong_coin.chk ⟨n_wrong_coin, defScope s_wrong_coin, true, fns.take 5, cns, gb, kp⟩ (defBody s_wrong_coin) = true := by decide +kernel
abbrev i_wrong_coin : Nat := 5
abbrev g_wrong_coin : List (M Rv) := [f_is_whole, f_is_between, f_is_row, f_is_coin_behind, f_first_wrong]
def f_wrong_coin : M Rv := Ss.fn (gOf [f_is_whole, f_is_between, f_is_row, f_is_coin_behind, f_first_wrong]) fv fu 1 1 b_wrong_coin
theorem u_wrong_coin (args : Pu.Env) (h : args.length = 1) : f_wrong_coin args = (b_wrong_coin.den (gOf g_wrong_coin) fv fu (args ++ [])).fn args := fn_ap h
abbrev s_check_coins : Stmt := tp 16
def n_check_coins : List Str := ["coins", "wrong"]
def p_check_coins : List Str := ["coins"]
def b_check_coins : Ss := (.cons (.asg (.nm 1) (.ite (.e (.call 2 (.e (.v 0) (.e (.c (.int 1)) (.e (.g 0) .nil))))) (.call 5 (.e (.v 0) .nil)) (.c .non)))
  (.cons (.ifs (.or (.cons (.not (.e (.call 2 (.e (.v 0) (.e (.c (.int 1)) (.e (.g 0) .nil)))))) (.cons (.c2 .isn (.v 1) (.c .non)) .nil))) (.cons (.never)
  .nil) .nil)
  .nil))
theorem sc_check_coins : FnScope n_check_coins p_check_coins (defScope s_check_coins) := ⟨rfl, rfl, rfl, by decide +kernel, rfl, by decide +kernel, by decide +kernel⟩
theorem ck_check_coins : b_check_coins.chk ⟨n_check_coins, defScope s_check_coins, true, fns.take 6, cns, gb, kp⟩ (defBody s_check_coins) = true := by decide +kernel
abbrev i_check_coins : Nat := 6
abbrev g_check_coins : List (M Rv) := [f_is_whole, f_is_between, f_is_row, f_is_coin_behind, f_first_wrong, f_wrong_coin]
def f_check_coins : M Rv := Ss.fn (gOf [f_is_whole, f_is_between, f_is_row, f_is_coin_behind, f_first_wrong, f_wrong_coin]) fv fu 1 2 b_check_coins
theorem u_check_coins (args : Pu.Env) (h : args.length = 1) : f_check_coins args = (b_check_coins.den (gOf g_check_coins) fv fu (args ++ [.no])).fn args := fn_ap h
abbrev s_is_amount : Stmt := tp 17
def n_is_amount : List Str := ["value"]
def p_is_amount : List Str := ["value"]
def b_is_amount : Ss := (.cons (.ret (.call 1 (.e (.v 0) (.e (.c (.int 0)) (.e (.g 2) .nil)))))
  .nil)
theorem sc_is_amount : FnScope n_is_amount p_is_amount (defScope s_is_amount) := ⟨rfl, rfl, rfl, by decide +kernel, rfl, by decide +kernel, by decide +kernel⟩
theorem ck_is_amount : b_is_amount.chk ⟨n_is_amount, defScope s_is_amount, true, fns.take 7, cns, gb, kp⟩ (defBody s_is_amount) = true := by decide +kernel
abbrev i_is_amount : Nat := 7
abbrev g_is_amount : List (M Rv) := [f_is_whole, f_is_between, f_is_row, f_is_coin_behind, f_first_wrong, f_wrong_coin, f_check_coins]
def f_is_amount : M Rv := Ss.fn (gOf [f_is_whole, f_is_between, f_is_row, f_is_coin_behind, f_first_wrong, f_wrong_coin, f_check_coins]) fv fu 1 1 b_is_amount
theorem u_is_amount (args : Pu.Env) (h : args.length = 1) : f_is_amount args = (b_is_amount.den (gOf g_is_amount) fv fu (args ++ [])).fn args := fn_ap h
abbrev s_check_amount : Stmt := tp 18
def n_check_amount : List Str := ["value"]
def p_check_amount : List Str := ["value"]
def b_check_amount : Ss := (.cons (.ifs (.not (.e (.call 7 (.e (.v 0) .nil)))) (.cons (.never)
  .nil) .nil)
  .nil)
theorem sc_check_amount : FnScope n_check_amount p_check_amount (defScope s_check_amount) := ⟨rfl, rfl, rfl, by decide +kernel, rfl, by decide +kernel, by decide +kernel⟩
theorem ck_check_amount : b_check_amount.chk ⟨n_check_amount, defScope s_check_amount, true, fns.take 8, cns, gb, kp⟩ (defBody s_check_amount) = true := by decide +kernel
abbrev i_check_amount : Nat := 8
abbrev g_check_amount : List (M Rv) := [f_is_whole, f_is_between, f_is_row, f_is_coin_behind, f_first_wrong, f_wrong_coin, f_check_coins, f_is_amount]
def f_check_amount : M Rv := Ss.fn (gOf [f_is_whole, f_is_between, f_is_row, f_is_coin_behind, f_first_wrong, f_wrong_coin, f_check_coins, f_is_amount]) fv fu 1 1 b_check_amount
theorem u_check_amount (args : Pu.Env) (h : args.length = 1) : f_check_amount args = (b_check_amount.den (gOf g_check_amount) fv fu (args ++ [])).fn args := fn_ap h
abbrev s_fewest_to : Stmt := tp 20
def n_fewest_to : List Str := ["coins", "top", "found", "amount", "told", "coin", "many"]
def p_fewest_to : List Str := ["coins", "top"]
def c1_fewest_to : E := .comp (.seq (.v 4)) (.nm 6) (.cons (.c2 .isn (.v 6) (.c .non)) .nil) (.b2 .add (.v 6) (.c (.int 1))) [6]
def c2_fewest_to : E := .comp (.seq (.v 0)) (.nm 5) (.cons (.c2 .le (.v 5) (.v 3)) .nil) (.osub 2 (.b2 .sub (.v 3) (.v 5))) [5]
def l1_fewest_to : Ss := (.cons (.asg (.nm 4) (c2_fewest_to))
  (.cons (.app 2 (.mind (c1_fewest_to) (.c .non)))
  (.wipe [3, 4, 5, 6] .nil)))
def w1_fewest_to : S := .fors (.nm 3) (.r2 (.c (.int 1)) (.b2 .add (.v 1) (.c (.int 1)))) l1_fewest_to
def b_fewest_to : Ss := (.cons (.asg (.nm 2) (.lst (.cons (.c (.int 0)) .nil)))
  (.wipe [3, 4, 5, 6] (.cons (w1_fewest_to)
  (.cons (.ret (.mv 2))
  .nil))))
theorem sc_fewest_to : FnScope n_fewest_to p_fewest_to (defScope s_fewest_to) := ⟨rfl, rfl, rfl, by decide +kernel, rfl, by decide +kernel, by decide +kernel⟩
theorem ck_fewest_to : b_fewest_to.chk ⟨n_fewest_to, defScope s_fewest_to, true, fns.take 9, cns, gb, kp⟩ (defBody s_fewest_to) = true := by decide +kernel
abbrev i_fewest_to : Nat := 9
abbrev g_fewest_to : List (M Rv) := [f_is_whole, f_is_between, f_is_row, f_is_coin_behind, f_first_wrong, f_wrong_coin, f_check_coins, f_is_amount, f_check_amount]
def f_fewest_to : M Rv := Ss.fn (gOf [f_is_whole, f_is_between, f_is_row, f_is_coin_behind, f_first_wrong, f_wrong_coin, f_check_coins, f_is_amount, f_check_amount]) fv fu 2 7 b_fewest_to
theorem u_fewest_to (args : Pu.Env) (h : args.length = 2) : f_fewest_to args = (b_fewest_to.den (gOf g_fewest_to) fv fu (args ++ [.no, .no, .no, .no, .no])).fn args := fn_ap h
abbrev s_check_paid : Stmt := tp 21
def n_check_paid : List Str := ["coins", "amount"]
def p_check_paid : List Str := ["coins", "amount"]
def b_check_paid : Ss := (.cons (.ex (.call 6 (.e (.v 0) .nil)))
  (.cons (.ex (.call 8 (.e (.v 1) .nil)))
  .nil))
theorem sc_check_paid : FnScope n_check_paid p_check_paid (defScope s_check_paid) := ⟨rfl, rfl, rfl, by decide +kernel, rfl, by decide +kernel, by decide +kernel⟩
theorem ck_check_paid : b_check_paid.chk ⟨n_check_paid, defScope s_check_paid, true, fns.take 10, cns, gb, kp⟩ (defBody s_check_paid) = true := by decide +kernel
abbrev i_check_paid : Nat := 10
abbrev g_check_paid : List (M Rv) := [f_is_whole, f_is_between, f_is_row, f_is_coin_behind, f_first_wrong, f_wrong_coin, f_check_coins, f_is_amount, f_check_amount, f_fewest_to]
def f_check_paid : M Rv := Ss.fn (gOf [f_is_whole, f_is_between, f_is_row, f_is_coin_behind, f_first_wrong, f_wrong_coin, f_check_coins, f_is_amount, f_check_amount, f_fewest_to]) fv fu 2 2 b_check_paid
theorem u_check_paid (args : Pu.Env) (h : args.length = 2) : f_check_paid args = (b_check_paid.den (gOf g_check_paid) fv fu (args ++ [])).fn args := fn_ap h
abbrev s_fewest_coins : Stmt := tp 22
def n_fewest_coins : List Str := ["coins", "amount"]
def p_fewest_coins : List Str := ["coins", "amount"]
def b_fewest_coins : Ss := (.cons (.ex (.call 10 (.e (.v 0) (.e (.v 1) .nil))))
  (.cons (.ret (.sub (.call 9 (.e (.v 0) (.e (.v 1) .nil))) (.v 1)))
  .nil))
theorem sc_fewest_coins : FnScope n_fewest_coins p_fewest_coins (defScope s_fewest_coins) := ⟨rfl, rfl, rfl, by decide +kernel, rfl, by decide +kernel, by decide +kernel⟩
theorem ck_fewest_coins : b_fewest_coins.chk ⟨n_fewest_coins, defScope s_fewest_coins, true, fns.take 11, cns, gb, kp⟩ (defBody s_fewest_coins) = true := by decide +kernel
abbrev i_fewest_coins : Nat := 11
abbrev g_fewest_coins : List (M Rv) := [f_is_whole, f_is_between, f_is_row, f_is_coin_behind, f_first_wrong, f_wrong_coin, f_check_coins, f_is_amount, f_check_amount, f_fewest_to, f_check_paid]
def f_fewest_coins : M Rv := Ss.fn (gOf [f_is_whole, f_is_between, f_is_row, f_is_coin_behind, f_first_wrong, f_wrong_coin, f_check_coins, f_is_amount, f_check_amount, f_fewest_to, f_check_paid]) fv fu 2 2 b_fewest_coins
theorem u_fewest_coins (args : Pu.Env) (h : args.length = 2) : f_fewest_coins args = (b_fewest_coins.den (gOf g_fewest_coins) fv fu (args ++ [])).fn args := fn_ap h
abbrev s_common_of : Stmt := tp 23
def n_common_of : List Str := ["coins", "found", "coin"]
def p_common_of : List Str := ["coins"]
def l1_common_of : Ss := (.cons (.asg (.nm 1) (.gcd (.cons (.v 1) (.cons (.v 2) .nil))))
  (.wipe [2] .nil))
def w1_common_of : S := .fors (.nm 2) (.seq (.v 0)) l1_common_of
def b_common_of : Ss := (.cons (.asg (.nm 1) (.c (.int 0)))
  (.wipe [2] (.cons (w1_common_of)
  (.cons (.ret (.v 1))
  .nil))))
theorem sc_common_of : FnScope n_common_of p_common_of (defScope s_common_of) := ⟨rfl, rfl, rfl, by decide +kernel, rfl, by decide +kernel, by decide +kernel⟩
theorem ck_common_of : b_common_of.chk ⟨n_common_of, defScope s_common_of, true, fns.take 12, cns, gb, kp⟩ (defBody s_common_of) = true := by decide +kernel
abbrev i_common_of : Nat := 12
abbrev g_common_of : List (M Rv) := [f_is_whole, f_is_between, f_is_row, f_is_coin_behind, f_first_wrong, f_wrong_coin, f_check_coins, f_is_amount, f_check_amount, f_fewest_to, f_check_paid, f_fewest_coins]
def f_common_of : M Rv := Ss.fn (gOf [f_is_whole, f_is_between, f_is_row, f_is_coin_behind, f_first_wrong, f_wrong_coin, f_check_coins, f_is_amount, f_check_amount, f_fewest_to, f_check_paid, f_fewest_coins]) fv fu 1 3 b_common_of
theorem u_common_of (args : Pu.Env) (h : args.length = 1) : f_common_of args = (b_common_of.den (gOf g_common_of) fv fu (args ++ [.no, .no])).fn args := fn_ap h
abbrev s_first_paid : Stmt := tp 24
def n_first_paid : List Str := ["coins", "least", "found", "line", "rest", "coin", "later", "amount"]
def p_first_paid : List Str := ["coins", "least"]
def l1_first_paid : Ss := (.cons (.par 6 7 (.b2 .mod (.b2 .add (.v 4) (.v 5)) (.v 1)) (.b2 .add (.osub 2 (.v 4)) (.v 5)))
  (.cons (.ifs (.or (.cons (.c2 .is (.osub 2 (.v 6)) (.c .non)) (.cons (.c2 .lt (.v 7) (.osub 2 (.v 6))) .nil))) (.cons (.asg (.sub 2 (.v 6)) (.v 7))
  (.cons (.app 3 (.v 6))
  .nil)) .nil)
  (.wipe [5, 6, 7] .nil)))
def w1_first_paid : S := .fors (.nm 5) (.seq (.v 0)) l1_first_paid
def l2_first_paid : Ss := (.cons (.asg (.nm 4) (.pop 3))
  (.wipe [5, 6, 7] (.cons (w1_first_paid)
  (.wipe [4, 5, 6, 7] .nil))))
def w2_first_paid : S := .whil (.onil true 3) l2_first_paid
def b_first_paid : Ss := (.cons (.asg (.nm 2) (.b2 .add (.lst (.cons (.c (.int 0)) .nil)) (.b2 .mul (.lst (.cons (.c .non) .nil)) (.b2 .sub (.v 1) (.c (.int 1))))))
  (.cons (.asg (.nm 3) (.lst (.cons (.c (.int 0)) .nil)))
  (.wipe [4, 5, 6, 7] (.cons (w2_first_paid)
  (.cons (.ret (.mv 2))
  .nil)))))
theorem sc_first_paid : FnScope n_first_paid p_first_paid (defScope s_first_paid) := ⟨rfl, rfl, rfl, by decide +kernel, rfl, by decide +kernel, by decide +kernel⟩
theorem ck_first_paid : b_first_paid.chk ⟨n_first_paid, defScope s_first_paid, true, fns.take 13, cns, gb, kp⟩ (defBody s_first_paid) = true := by decide +kernel
abbrev i_first_paid : Nat := 13
abbrev g_first_paid : List (M Rv) := [f_is_whole, f_is_between, f_is_row, f_is_coin_behind, f_first_wrong, f_wrong_coin, f_check_coins, f_is_amount, f_check_amount, f_fewest_to, f_check_paid, f_fewest_coins, f_common_of]
def f_first_paid : M Rv := Ss.fn (gOf [f_is_whole, f_is_between, f_is_row, f_is_coin_behind, f_first_wrong, f_wrong_coin, f_check_coins, f_is_amount, f_check_amount, f_fewest_to, f_check_paid, f_fewest_coins, f_common_of]) fv fu 2 8 b_first_paid
theorem u_first_paid (args : Pu.Env) (h : args.length = 2) : f_first_paid args = (b_first_paid.den (gOf g_first_paid) fv fu (args ++ [.no, .no, .no, .no, .no, .no])).fn args := fn_ap h
abbrev s_gap_by : Stmt := tp 25
def n_gap_by : List Str := ["coins", "common", "lesser", "last", "coin"]
def p_gap_by : List Str := ["coins"]
def s4_gap_by : S := .ret (.ite (.c2 .gt (.v 3) (.c (.int 0))) (.b2 .mul (.v 3) (.v 1)) (.c .non))
def s3_gap_by : S := .asg (.nm 3) (.b2 .sub (.bf .max1 (.cons (.call 13 (.e (.v 2) (.e (.sub (.v 2) (.c (.int 0))) .nil))) .nil)) (.sub (.v 2) (.c (.int 0))))
def c1_gap_by : E := .comp (.seq (.v 0)) (.nm 4) .nil (.b2 .fdiv (.v 4) (.v 1)) [4]
def s2_gap_by : S := .asg (.nm 2) (c1_gap_by)
def s1_gap_by : S := .asg (.nm 1) (.call 12 (.e (.v 0) .nil))
def b_gap_by : Ss := (.cons (s1_gap_by)
  (.cons (s2_gap_by)
  (.cons (s3_gap_by)
  (.cons (s4_gap_by)
  .nil))))
theorem sc_gap_by : FnScope n_gap_by p_gap_by (defScope s_gap_by) := ⟨rfl, rfl, rfl, by decide +kernel, rfl, by decide +kernel, by decide +kernel⟩
theorem ck_gap_by : b_gap_by.chk ⟨n_gap_by, defScope s_gap_by, true, fns.take 14, cns, gb, kp⟩ (defBody s_gap_by) = true := by decide +kernel
abbrev i_gap_by : Nat := 14
abbrev g_gap_by : List (M Rv) := [f_is_whole, f_is_between, f_is_row, f_is_coin_behind, f_first_wrong, f_wrong_coin, f_check_coins, f_is_amount, f_check_amount, f_fewest_to, f_check_paid, f_fewest_coins, f_common_of, f_first_paid]
def f_gap_by : M Rv := Ss.fn (gOf [f_is_whole, f_is_between, f_is_row, f_is_coin_behind, f_first_wrong, f_wrong_coin, f_check_coins, f_is_amount, f_check_amount, f_fewest_to, f_check_paid, f_fewest_coins, f_common_of, f_first_paid]) fv fu 1 5 b_gap_by
theorem u_gap_by (args : Pu.Env) (h : args.length = 1) : f_gap_by args = (b_gap_by.den (gOf g_gap_by) fv fu (args ++ [.no, .no, .no, .no])).fn args := fn_ap h
abbrev s_last_gap : Stmt := tp 26
def n_last_gap : List Str := ["coins"]
def p_last_gap : List Str := ["coins"]
def b_last_gap : Ss := (.cons (.ex (.call 6 (.e (.v 0) .nil)))
  (.cons (.ret (.call 14 (.e (.v 0) .nil)))
  .nil))
theorem sc_last_gap : FnScope n_last_gap p_last_gap (defScope s_last_gap) := ⟨rfl, rfl, rfl, by decide +kernel, rfl, by decide +kernel, by decide +kernel⟩
theorem ck_last_gap : b_last_gap.chk ⟨n_last_gap, defScope s_last_gap, true, fns.take 15, cns, gb, kp⟩ (defBody s_last_gap) = true := by decide +kernel
abbrev i_last_gap : Nat := 15
abbrev g_last_gap : List (M Rv) := [f_is_whole, f_is_between, f_is_row, f_is_coin_behind, f_first_wrong, f_wrong_coin, f_check_coins, f_is_amount, f_check_amount, f_fewest_to, f_check_paid, f_fewest_coins, f_common_of, f_first_paid, f_gap_by]
def f_last_gap : M Rv := Ss.fn (gOf [f_is_whole, f_is_between, f_is_row, f_is_coin_behind, f_first_wrong, f_wrong_coin, f_check_coins, f_is_amount, f_check_amount, f_fewest_to, f_check_paid, f_fewest_coins, f_common_of, f_first_paid, f_gap_by]) fv fu 1 1 b_last_gap
theorem u_last_gap (args : Pu.Env) (h : args.length = 1) : f_last_gap args = (b_last_gap.den (gOf g_last_gap) fv fu (args ++ [])).fn args := fn_ap h
abbrev s_greedy_many : Stmt := tp 27
def n_greedy_many : List Str := ["coins", "amount", "found", "coin", "many"]
def p_greedy_many : List Str := ["coins", "amount"]
def l1_greedy_many : Ss := (.cons (.asg (.tup (.cons (.nm 4) (.cons (.nm 1) .nil))) (.bf .divmod (.cons (.v 1) (.cons (.v 3) .nil))))
  (.cons (.aug 2 .add (.v 4))
  (.wipe [3, 4] .nil)))
def w1_greedy_many : S := .fors (.nm 3) (.seq (.rev (.v 0))) l1_greedy_many
def b_greedy_many : Ss := (.cons (.asg (.nm 2) (.c (.int 0)))
  (.wipe [3, 4] (.cons (w1_greedy_many)
  (.cons (.ret (.v 2))
  .nil))))
theorem sc_greedy_many : FnScope n_greedy_many p_greedy_many (defScope s_greedy_many) := ⟨rfl, rfl, rfl, by decide +kernel, rfl, by decide +kernel, by decide +kernel⟩
theorem ck_greedy_many : b_greedy_many.chk ⟨n_greedy_many, defScope s_greedy_many, true, fns.take 16, cns, gb, kp⟩ (defBody s_greedy_many) = true := by decide +kernel
abbrev i_greedy_many : Nat := 16
abbrev g_greedy_many : List (M Rv) := [f_is_whole, f_is_between, f_is_row, f_is_coin_behind, f_first_wrong, f_wrong_coin, f_check_coins, f_is_amount, f_check_amount, f_fewest_to, f_check_paid, f_fewest_coins, f_common_of, f_first_paid, f_gap_by, f_last_gap]
def f_greedy_many : M Rv := Ss.fn (gOf [f_is_whole, f_is_between, f_is_row, f_is_coin_behind, f_first_wrong, f_wrong_coin, f_check_coins, f_is_amount, f_check_amount, f_fewest_to, f_check_paid, f_fewest_coins, f_common_of, f_first_paid, f_gap_by, f_last_gap]) fv fu 2 5 b_greedy_many
theorem u_greedy_many (args : Pu.Env) (h : args.length = 2) : f_greedy_many args = (b_greedy_many.den (gOf g_greedy_many) fv fu (args ++ [.no, .no, .no])).fn args := fn_ap h
abbrev s_fault_by : Stmt := tp 28
def n_fault_by : List Str := ["coins", "top", "fewest", "amount"]
def p_fault_by : List Str := ["coins"]
def l1_fault_by : Ss := (.cons (.ifs (.c2 .gt (.call 16 (.e (.v 0) (.e (.v 3) .nil))) (.sub (.v 2) (.v 3))) (.cons (.ret (.v 3))
  .nil) .nil)
  (.wipe [3] .nil))
def w1_fault_by : S := .fors (.nm 3) (.r1 (.b2 .add (.v 1) (.c (.int 1)))) l1_fault_by
def b_fault_by : Ss := (.cons (.asg (.nm 1) (.bf .sum (.cons (.slc (.v 0) (.some (.neg (.c (.int 2)))) .none) .nil)))
  (.cons (.asg (.nm 2) (.call 9 (.e (.v 0) (.e (.v 1) .nil))))
  (.wipe [3] (.cons (w1_fault_by)
  (.cons (.ret (.c .non))
  .nil)))))
theorem sc_fault_by : FnScope n_fault_by p_fault_by (defScope s_fault_by) := ⟨rfl, rfl, rfl, by decide +kernel, rfl, by decide +kernel, by decide +kernel⟩
theorem ck_fault_by : b_fault_by.chk ⟨n_fault_by, defScope s_fault_by, true, fns.take 17, cns, gb, kp⟩ (defBody s_fault_by) = true := by decide +kernel
abbrev i_fault_by : Nat := 17
abbrev g_fault_by : List (M Rv) := [f_is_whole, f_is_between, f_is_row, f_is_coin_behind, f_first_wrong, f_wrong_coin, f_check_coins, f_is_amount, f_check_amount, f_fewest_to, f_check_paid, f_fewest_coins, f_common_of, f_first_paid, f_gap_by, f_last_gap, f_greedy_many]
def f_fault_by : M Rv := Ss.fn (gOf [f_is_whole, f_is_between, f_is_row, f_is_coin_behind, f_first_wrong, f_wrong_coin, f_check_coins, f_is_amount, f_check_amount, f_fewest_to, f_check_paid, f_fewest_coins, f_common_of, f_first_paid, f_gap_by, f_last_gap, f_greedy_many]) fv fu 1 4 b_fault_by
theorem u_fault_by (args : Pu.Env) (h : args.length = 1) : f_fault_by args = (b_fault_by.den (gOf g_fault_by) fv fu (args ++ [.no, .no, .no])).fn args := fn_ap h
abbrev s_check_with_one : Stmt := tp 29
def n_check_with_one : List Str := ["coins"]
def p_check_with_one : List Str := ["coins"]
def b_check_with_one : Ss := (.cons (.ex (.call 6 (.e (.v 0) .nil)))
  (.cons (.ifs (.c2 .nin (.c (.int 1)) (.v 0)) (.cons (.never)
  .nil) .nil)
  .nil))
theorem sc_check_with_one : FnScope n_check_with_one p_check_with_one (defScope s_check_with_one) := ⟨rfl, rfl, rfl, by decide +kernel, rfl, by decide +kernel, by decide +kernel⟩
theorem ck_check_with_one : b_check_with_one.chk ⟨n_check_with_one, defScope s_check_with_one, true, fns.take 18, cns, gb, kp⟩ (defBody s_check_with_one) = true := by decide +kernel
abbrev i_check_with_one : Nat := 18
abbrev g_check_with_one : List (M Rv) := [f_is_whole, f_is_between, f_is_row, f_is_coin_behind, f_first_wrong, f_wrong_coin, f_check_coins, f_is_amount, f_check_amount, f_fewest_to, f_check_paid, f_fewest_coins, f_common_of, f_first_paid, f_gap_by, f_last_gap, f_greedy_many, f_fault_by]
def f_check_with_one : M Rv := Ss.fn (gOf [f_is_whole, f_is_between, f_is_row, f_is_coin_behind, f_first_wrong, f_wrong_coin, f_check_coins, f_is_amount, f_check_amount, f_fewest_to, f_check_paid, f_fewest_coins, f_common_of, f_first_paid, f_gap_by, f_last_gap, f_greedy_many, f_fault_by]) fv fu 1 1 b_check_with_one
theorem u_check_with_one (args : Pu.Env) (h : args.length = 1) : f_check_with_one args = (b_check_with_one.den (gOf g_check_with_one) fv fu (args ++ [])).fn args := fn_ap h
abbrev s_first_fault : Stmt := tp 30
def n_first_fault : List Str := ["coins"]
def p_first_fault : List Str := ["coins"]
def b_first_fault : Ss := (.cons (.ex (.call 18 (.e (.v 0) .nil)))
  (.cons (.ret (.call 17 (.e (.v 0) .nil)))
  .nil))
theorem sc_first_fault : FnScope n_first_fault p_first_fault (defScope s_first_fault) := ⟨rfl, rfl, rfl, by decide +kernel, rfl, by decide +kernel, by decide +kernel⟩
theorem ck_first_fault : b_first_fault.chk ⟨n_first_fault, defScope s_first_fault, true, fns.take 19, cns, gb, kp⟩ (defBody s_first_fault) = true := by decide +kernel
abbrev i_first_fault : Nat := 19
abbrev g_first_fault : List (M Rv) := [f_is_whole, f_is_between, f_is_row, f_is_coin_behind, f_first_wrong, f_wrong_coin, f_check_coins, f_is_amount, f_check_amount, f_fewest_to, f_check_paid, f_fewest_coins, f_common_of, f_first_paid, f_gap_by, f_last_gap, f_greedy_many, f_fault_by, f_check_with_one]
def f_first_fault : M Rv := Ss.fn (gOf [f_is_whole, f_is_between, f_is_row, f_is_coin_behind, f_first_wrong, f_wrong_coin, f_check_coins, f_is_amount, f_check_amount, f_fewest_to, f_check_paid, f_fewest_coins, f_common_of, f_first_paid, f_gap_by, f_last_gap, f_greedy_many, f_fault_by, f_check_with_one]) fv fu 1 1 b_first_fault
theorem u_first_fault (args : Pu.Env) (h : args.length = 1) : f_first_fault args = (b_first_fault.den (gOf g_first_fault) fv fu (args ++ [])).fn args := fn_ap h
abbrev s_is_greedy : Stmt := tp 31
def n_is_greedy : List Str := ["coins"]
def p_is_greedy : List Str := ["coins"]
def b_is_greedy : Ss := (.cons (.ex (.call 18 (.e (.v 0) .nil)))
  (.cons (.ret (.c2 .is (.call 17 (.e (.v 0) .nil)) (.c .non)))
  .nil))
theorem sc_is_greedy : FnScope n_is_greedy p_is_greedy (defScope s_is_greedy) := ⟨rfl, rfl, rfl, by decide +kernel, rfl, by decide +kernel, by decide +kernel⟩
theorem ck_is_greedy : b_is_greedy.chk ⟨n_is_greedy, defScope s_is_greedy, true, fns.take 20, cns, gb, kp⟩ (defBody s_is_greedy) = true := by decide +kernel
abbrev i_is_greedy : Nat := 20
abbrev g_is_greedy : List (M Rv) := [f_is_whole, f_is_between, f_is_row, f_is_coin_behind, f_first_wrong, f_wrong_coin, f_check_coins, f_is_amount, f_check_amount, f_fewest_to, f_check_paid, f_fewest_coins, f_common_of, f_first_paid, f_gap_by, f_last_gap, f_greedy_many, f_fault_by, f_check_with_one, f_first_fault]
def f_is_greedy : M Rv := Ss.fn (gOf [f_is_whole, f_is_between, f_is_row, f_is_coin_behind, f_first_wrong, f_wrong_coin, f_check_coins, f_is_amount, f_check_amount, f_fewest_to, f_check_paid, f_fewest_coins, f_common_of, f_first_paid, f_gap_by, f_last_gap, f_greedy_many, f_fault_by, f_check_with_one, f_first_fault]) fv fu 1 1 b_is_greedy
theorem u_is_greedy (args : Pu.Env) (h : args.length = 1) : f_is_greedy args = (b_is_greedy.den (gOf g_is_greedy) fv fu (args ++ [])).fn args := fn_ap h
abbrev s_left_by : Stmt := tp 34
def n_left_by : List Str := ["stock", "way", "number", "given"]
def p_left_by : List Str := ["stock", "way"]
def c1_left_by : E := .comp (.zip (.v 0) (.v 1)) (.tup (.cons (.nm 2) (.cons (.nm 3) .nil))) .nil (.b2 .sub (.v 2) (.v 3)) [2, 3]
def b_left_by : Ss := (.cons (.ret (.bf .tuple (.cons (c1_left_by) .nil)))
  .nil)
theorem sc_left_by : FnScope n_left_by p_left_by (defScope s_left_by) := ⟨rfl, rfl, rfl, by decide +kernel, rfl, by decide +kernel, by decide +kernel⟩
theorem ck_left_by : b_left_by.chk ⟨n_left_by, defScope s_left_by, true, fns.take 21, cns, gb, kp⟩ (defBody s_left_by) = true := by decide +kernel
abbrev i_left_by : Nat := 21
abbrev g_left_by : List (M Rv) := [f_is_whole, f_is_between, f_is_row, f_is_coin_behind, f_first_wrong, f_wrong_coin, f_check_coins, f_is_amount, f_check_amount, f_fewest_to, f_check_paid, f_fewest_coins, f_common_of, f_first_paid, f_gap_by, f_last_gap, f_greedy_many, f_fault_by, f_check_with_one, f_first_fault, f_is_greedy]
def f_left_by : M Rv := Ss.fn (gOf [f_is_whole, f_is_between, f_is_row, f_is_coin_behind, f_first_wrong, f_wrong_coin, f_check_coins, f_is_amount, f_check_amount, f_fewest_to, f_check_paid, f_fewest_coins, f_common_of, f_first_paid, f_gap_by, f_last_gap, f_greedy_many, f_fault_by, f_check_with_one, f_first_fault, f_is_greedy]) fv fu 2 4 b_left_by
theorem u_left_by (args : Pu.Env) (h : args.length = 2) : f_left_by args = (b_left_by.den (gOf g_left_by) fv fu (args ++ [.no, .no])).fn args := fn_ap h
abbrev s_greatest_by : Stmt := tp 35
def n_greatest_by : List Str := ["coins", "stock", "amount", "at", "found", "left", "number"]
def p_greatest_by : List Str := ["coins", "stock", "amount"]
def b_greatest_by : Ss := (.cons .never (.cons .never (.cons .never .nil)))
theorem sc_greatest_by : FnScope n_greatest_by p_greatest_by (defScope s_greatest_by) := ⟨rfl, rfl, rfl, by decide +kernel, rfl, by decide +kernel, by decide +kernel⟩
theorem ck_greatest_by : b_greatest_by.chk ⟨n_greatest_by, defScope s_greatest_by, true, fns.take 22, cns, gb, kp⟩ (defBody s_greatest_by) = true := by decide +kernel
abbrev i_greatest_by : Nat := 22
abbrev g_greatest_by : List (M Rv) := [f_is_whole, f_is_between, f_is_row, f_is_coin_behind, f_first_wrong, f_wrong_coin, f_check_coins, f_is_amount, f_check_amount, f_fewest_to, f_check_paid, f_fewest_coins, f_common_of, f_first_paid, f_gap_by, f_last_gap, f_greedy_many, f_fault_by, f_check_with_one, f_first_fault, f_is_greedy, f_left_by]
def f_greatest_by : M Rv := Ss.fn (gOf [f_is_whole, f_is_between, f_is_row, f_is_coin_behind, f_first_wrong, f_wrong_coin, f_check_coins, f_is_amount, f_check_amount, f_fewest_to, f_check_paid, f_fewest_coins, f_common_of, f_first_paid, f_gap_by, f_last_gap, f_greedy_many, f_fault_by, f_check_with_one, f_first_fault, f_is_greedy, f_left_by]) fv fu 3 7 b_greatest_by
theorem u_greatest_by (args : Pu.Env) (h : args.length = 3) : f_greatest_by args = (b_greatest_by.den (gOf g_greatest_by) fv fu (args ++ [.no, .no, .no, .no])).fn args := fn_ap h
abbrev s_is_chain_by : Stmt := tp 36
def n_is_chain_by : List Str := ["coins", "lesser", "greater"]
def p_is_chain_by : List Str := ["coins"]
def c1_is_chain_by : E := .comp (.zip (.v 0) (.slc (.v 0) (.some (.c (.int 1))) .none)) (.tup (.cons (.nm 1) (.cons (.nm 2) .nil))) .nil (.c2 .eq (.b2 .mod (.v 2) (.v 1)) (.c (.int 0))) [1, 2]
def b_is_chain_by : Ss := (.cons (.ret (.bf .all (.cons (c1_is_chain_by) .nil)))
  .nil)
theorem sc_is_chain_by : FnScope n_is_chain_by p_is_chain_by (defScope s_is_chain_by) := ⟨rfl, rfl, rfl, by decide +kernel, rfl, by decide +kernel, by decide +kernel⟩
theorem ck_is_chain_by : b_is_chain_by.chk ⟨n_is_chain_by, defScope s_is_chain_by, true, fns.take 23, cns, gb, kp⟩ (defBody s_is_chain_by) = true := by decide +kernel
abbrev i_is_chain_by : Nat := 23
abbrev g_is_chain_by : List (M Rv) := [f_is_whole, f_is_between, f_is_row, f_is_coin_behind, f_first_wrong, f_wrong_coin, f_check_coins, f_is_amount, f_check_amount, f_fewest_to, f_check_paid, f_fewest_coins, f_common_of, f_first_paid, f_gap_by, f_last_gap, f_greedy_many, f_fault_by, f_check_with_one, f_first_fault, f_is_greedy, f_left_by, f_greatest_by]
def f_is_chain_by : M Rv := Ss.fn (gOf [f_is_whole, f_is_between, f_is_row, f_is_coin_behind, f_first_wrong, f_wrong_coin, f_check_coins, f_is_amount, f_check_amount, f_fewest_to, f_check_paid, f_fewest_coins, f_common_of, f_first_paid, f_gap_by, f_last_gap, f_greedy_many, f_fault_by, f_check_with_one, f_first_fault, f_is_greedy, f_left_by, f_greatest_by]) fv fu 1 3 b_is_chain_by
theorem u_is_chain_by (args : Pu.Env) (h : args.length = 1) : f_is_chain_by args = (b_is_chain_by.den (gOf g_is_chain_by) fv fu (args ++ [.no, .no])).fn args := fn_ap h
abbrev s_amounts_in : Stmt := tp 37
def n_amounts_in : List Str := ["coins", "stock", "found", "coin", "number", "turn"]
def p_amounts_in : List Str := ["coins", "stock"]
def b_amounts_in : Ss := (.cons .never (.cons .never (.cons .never .nil)))
theorem sc_amounts_in : FnScope n_amounts_in p_amounts_in (defScope s_amounts_in) := ⟨rfl, rfl, rfl, by decide +kernel, rfl, by decide +kernel, by decide +kernel⟩
theorem ck_amounts_in : b_amounts_in.chk ⟨n_amounts_in, defScope s_amounts_in, true, fns.take 24, cns, gb, kp⟩ (defBody s_amounts_in) = true := by decide +kernel
abbrev i_amounts_in : Nat := 24
abbrev g_amounts_in : List (M Rv) := [f_is_whole, f_is_between, f_is_row, f_is_coin_behind, f_first_wrong, f_wrong_coin, f_check_coins, f_is_amount, f_check_amount, f_fewest_to, f_check_paid, f_fewest_coins, f_common_of, f_first_paid, f_gap_by, f_last_gap, f_greedy_many, f_fault_by, f_check_with_one, f_first_fault, f_is_greedy, f_left_by, f_greatest_by, f_is_chain_by]
def f_amounts_in : M Rv := Ss.fn (gOf [f_is_whole, f_is_between, f_is_row, f_is_coin_behind, f_first_wrong, f_wrong_coin, f_check_coins, f_is_amount, f_check_amount, f_fewest_to, f_check_paid, f_fewest_coins, f_common_of, f_first_paid, f_gap_by, f_last_gap, f_greedy_many, f_fault_by, f_check_with_one, f_first_fault, f_is_greedy, f_left_by, f_greatest_by, f_is_chain_by]) fv fu 2 6 b_amounts_in
theorem u_amounts_in (args : Pu.Env) (h : args.length = 2) : f_amounts_in args = (b_amounts_in.den (gOf g_amounts_in) fv fu (args ++ [.no, .no, .no, .no])).fn args := fn_ap h
abbrev s_first_in : Stmt := tp 38
def n_first_in : List Str := ["lot", "found"]
def p_first_in : List Str := ["lot"]
def b_first_in : Ss := (.cons .never (.cons .never (.cons .never .nil)))
theorem sc_first_in : FnScope n_first_in p_first_in (defScope s_first_in) := ⟨rfl, rfl, rfl, by decide +kernel, rfl, by decide +kernel, by decide +kernel⟩
theorem ck_first_in : b_first_in.chk ⟨n_first_in, defScope s_first_in, true, fns.take 25, cns, gb, kp⟩ (defBody s_first_in) = true := by decide +kernel
abbrev i_first_in : Nat := 25
abbrev g_first_in : List (M Rv) := [f_is_whole, f_is_between, f_is_row, f_is_coin_behind, f_first_wrong, f_wrong_coin, f_check_coins, f_is_amount, f_check_amount, f_fewest_to, f_check_paid, f_fewest_coins, f_common_of, f_first_paid, f_gap_by, f_last_gap, f_greedy_many, f_fault_by, f_check_with_one, f_first_fault, f_is_greedy, f_left_by, f_greatest_by, f_is_chain_by, f_amounts_in]
def f_first_in : M Rv := Ss.fn (gOf [f_is_whole, f_is_between, f_is_row, f_is_coin_behind, f_first_wrong, f_wrong_coin, f_check_coins, f_is_amount, f_check_amount, f_fewest_to, f_check_paid, f_fewest_coins, f_common_of, f_first_paid, f_gap_by, f_last_gap, f_greedy_many, f_fault_by, f_check_with_one, f_first_fault, f_is_greedy, f_left_by, f_greatest_by, f_is_chain_by, f_amounts_in]) fv fu 1 2 b_first_in
theorem u_first_in (args : Pu.Env) (h : args.length = 1) : f_first_in args = (b_first_in.den (gOf g_first_in) fv fu (args ++ [.no])).fn args := fn_ap h
abbrev s_all_parts : Stmt := tp 39
def n_all_parts : List Str := ["stock", "found", "most", "row", "number"]
def p_all_parts : List Str := ["stock"]
def b_all_parts : Ss := (.cons .never (.cons .never (.cons .never .nil)))
theorem sc_all_parts : FnScope n_all_parts p_all_parts (defScope s_all_parts) := ⟨rfl, rfl, rfl, by decide +kernel, rfl, by decide +kernel, by decide +kernel⟩
theorem ck_all_parts : b_all_parts.chk ⟨n_all_parts, defScope s_all_parts, true, fns.take 26, cns, gb, kp⟩ (defBody s_all_parts) = true := by decide +kernel
abbrev i_all_parts : Nat := 26
abbrev g_all_parts : List (M Rv) := [f_is_whole, f_is_between, f_is_row, f_is_coin_behind, f_first_wrong, f_wrong_coin, f_check_coins, f_is_amount, f_check_amount, f_fewest_to, f_check_paid, f_fewest_coins, f_common_of, f_first_paid, f_gap_by, f_last_gap, f_greedy_many, f_fault_by, f_check_with_one, f_first_fault, f_is_greedy, f_left_by, f_greatest_by, f_is_chain_by, f_amounts_in, f_first_in]
def f_all_parts : M Rv := Ss.fn (gOf [f_is_whole, f_is_between, f_is_row, f_is_coin_behind, f_first_wrong, f_wrong_coin, f_check_coins, f_is_amount, f_check_amount, f_fewest_to, f_check_paid, f_fewest_coins, f_common_of, f_first_paid, f_gap_by, f_last_gap, f_greedy_many, f_fault_by, f_check_with_one, f_first_fault, f_is_greedy, f_left_by, f_greatest_by, f_is_chain_by, f_amounts_in, f_first_in]) fv fu 1 5 b_all_parts
theorem u_all_parts (args : Pu.Env) (h : args.length = 1) : f_all_parts args = (b_all_parts.den (gOf g_all_parts) fv fu (args ++ [.no, .no, .no, .no])).fn args := fn_ap h
abbrev s_least_trap_by : Stmt := tp 41
def n_least_trap_by : List Str := ["coins"]
def p_least_trap_by : List Str := ["coins"]
def b_least_trap_by : Ss := (.cons (.ret (.ite (.e (.call 23 (.e (.v 0) .nil))) (.c .non) (.bad)))
  .nil)
theorem sc_least_trap_by : FnScope n_least_trap_by p_least_trap_by (defScope s_least_trap_by) := ⟨rfl, rfl, rfl, by decide +kernel, rfl, by decide +kernel, by decide +kernel⟩
theorem ck_least_trap_by : b_least_trap_by.chk ⟨n_least_trap_by, defScope s_least_trap_by, true, fns.take 27, cns, gb, kp⟩ (defBody s_least_trap_by) = true := by decide +kernel
abbrev i_least_trap_by : Nat := 27
abbrev g_least_trap_by : List (M Rv) := [f_is_whole, f_is_between, f_is_row, f_is_coin_behind, f_first_wrong, f_wrong_coin, f_check_coins, f_is_amount, f_check_amount, f_fewest_to, f_check_paid, f_fewest_coins, f_common_of, f_first_paid, f_gap_by, f_last_gap, f_greedy_many, f_fault_by, f_check_with_one, f_first_fault, f_is_greedy, f_left_by, f_greatest_by, f_is_chain_by, f_amounts_in, f_first_in, f_all_parts]
def f_least_trap_by : M Rv := Ss.fn (gOf [f_is_whole, f_is_between, f_is_row, f_is_coin_behind, f_first_wrong, f_wrong_coin, f_check_coins, f_is_amount, f_check_amount, f_fewest_to, f_check_paid, f_fewest_coins, f_common_of, f_first_paid, f_gap_by, f_last_gap, f_greedy_many, f_fault_by, f_check_with_one, f_first_fault, f_is_greedy, f_left_by, f_greatest_by, f_is_chain_by, f_amounts_in, f_first_in, f_all_parts]) fv fu 1 1 b_least_trap_by
theorem u_least_trap_by (args : Pu.Env) (h : args.length = 1) : f_least_trap_by args = (b_least_trap_by.den (gOf g_least_trap_by) fv fu (args ++ [])).fn args := fn_ap h
abbrev s_is_chain : Stmt := tp 43
def n_is_chain : List Str := ["coins"]
def p_is_chain : List Str := ["coins"]
def b_is_chain : Ss := (.cons (.ex (.call 6 (.e (.v 0) .nil)))
  (.cons (.ret (.call 23 (.e (.v 0) .nil)))
  .nil))
theorem sc_is_chain : FnScope n_is_chain p_is_chain (defScope s_is_chain) := ⟨rfl, rfl, rfl, by decide +kernel, rfl, by decide +kernel, by decide +kernel⟩
theorem ck_is_chain : b_is_chain.chk ⟨n_is_chain, defScope s_is_chain, true, fns.take 28, cns, gb, kp⟩ (defBody s_is_chain) = true := by decide +kernel
abbrev i_is_chain : Nat := 28
abbrev g_is_chain : List (M Rv) := [f_is_whole, f_is_between, f_is_row, f_is_coin_behind, f_first_wrong, f_wrong_coin, f_check_coins, f_is_amount, f_check_amount, f_fewest_to, f_check_paid, f_fewest_coins, f_common_of, f_first_paid, f_gap_by, f_last_gap, f_greedy_many, f_fault_by, f_check_with_one, f_first_fault, f_is_greedy, f_left_by, f_greatest_by, f_is_chain_by, f_amounts_in, f_first_in, f_all_parts, f_least_trap_by]
def f_is_chain : M Rv := Ss.fn (gOf [f_is_whole, f_is_between, f_is_row, f_is_coin_behind, f_first_wrong, f_wrong_coin, f_check_coins, f_is_amount, f_check_amount, f_fewest_to, f_check_paid, f_fewest_coins, f_common_of, f_first_paid, f_gap_by, f_last_gap, f_greedy_many, f_fault_by, f_check_with_one, f_first_fault, f_is_greedy, f_left_by, f_greatest_by, f_is_chain_by, f_amounts_in, f_first_in, f_all_parts, f_least_trap_by]) fv fu 1 1 b_is_chain
theorem u_is_chain (args : Pu.Env) (h : args.length = 1) : f_is_chain args = (b_is_chain.den (gOf g_is_chain) fv fu (args ++ [])).fn args := fn_ap h
abbrev s_least_trap : Stmt := tp 44
def n_least_trap : List Str := ["coins"]
def p_least_trap : List Str := ["coins"]
def b_least_trap : Ss := (.cons (.ex (.call 6 (.e (.v 0) .nil)))
  (.cons (.ret (.call 27 (.e (.v 0) .nil)))
  .nil))
theorem sc_least_trap : FnScope n_least_trap p_least_trap (defScope s_least_trap) := ⟨rfl, rfl, rfl, by decide +kernel, rfl, by decide +kernel, by decide +kernel⟩
theorem ck_least_trap : b_least_trap.chk ⟨n_least_trap, defScope s_least_trap, true, fns.take 29, cns, gb, kp⟩ (defBody s_least_trap) = true := by decide +kernel
abbrev i_least_trap : Nat := 29
abbrev g_least_trap : List (M Rv) := [f_is_whole, f_is_between, f_is_row, f_is_coin_behind, f_first_wrong, f_wrong_coin, f_check_coins, f_is_amount, f_check_amount, f_fewest_to, f_check_paid, f_fewest_coins, f_common_of, f_first_paid, f_gap_by, f_last_gap, f_greedy_many, f_fault_by, f_check_with_one, f_first_fault, f_is_greedy, f_left_by, f_greatest_by, f_is_chain_by, f_amounts_in, f_first_in, f_all_parts, f_least_trap_by, f_is_chain]
def f_least_trap : M Rv := Ss.fn (gOf [f_is_whole, f_is_between, f_is_row, f_is_coin_behind, f_first_wrong, f_wrong_coin, f_check_coins, f_is_amount, f_check_amount, f_fewest_to, f_check_paid, f_fewest_coins, f_common_of, f_first_paid, f_gap_by, f_last_gap, f_greedy_many, f_fault_by, f_check_with_one, f_first_fault, f_is_greedy, f_left_by, f_greatest_by, f_is_chain_by, f_amounts_in, f_first_in, f_all_parts, f_least_trap_by, f_is_chain]) fv fu 1 1 b_least_trap
theorem u_least_trap (args : Pu.Env) (h : args.length = 1) : f_least_trap args = (b_least_trap.den (gOf g_least_trap) fv fu (args ++ [])).fn args := fn_ap h
abbrev s_law_bag : Stmt := tp 46
def n_law_bag : List Str := ["script", "lap", "stirred", "cell", "own"]
def p_law_bag : List Str := ["script", "lap"]
def l1_law_bag : Ss := (.cons (.asg (.nm 2) (.b2 .mod (.bf .int (.cons (.b2 .add (.b2 .add (.b2 .mul (.v 2) (.c (.int 48271))) (.b2 .mod (.bf .int (.cons (.v 3) .nil)) (.c (.int 2147483629)))) (.c (.int 23))) .nil)) (.c (.int 2147483647))))
  (.wipe [3, 4] .nil))
def w1_law_bag : S := .fors (.nm 3) (.seq (.slc (.v 0) .none (.some (.c (.int 16))))) l1_law_bag
def b_law_bag : Ss := (.cons (.asg (.nm 2) (.b2 .add (.c (.int 52027)) (.b2 .mul (.c (.int 8009)) (.v 1))))
  (.wipe [3, 4] (.cons (w1_law_bag)
  (.cons (.asg (.nm 4) (.ite (.c2 .lt (.v 1) (.bf .len (.cons (.v 0) .nil))) (.bf .int (.cons (.sub (.v 0) (.v 1)) .nil)) (.c (.int 0))))
  (.cons (.asg (.nm 2) (.b2 .mod (.bf .int (.cons (.b2 .add (.b2 .add (.b2 .mul (.v 2) (.c (.int 31))) (.b2 .mul (.b2 .mod (.bf .int (.cons (.v 4) .nil)) (.c (.int 2147483629))) (.c (.int 17)))) (.c (.int 3))) .nil)) (.c (.int 2147483647))))
  (.cons (.ret (.lst (.cons (.ite (.or (.cons (.c2 .lt (.v 4) (.c (.int 0))) (.cons (.c2 .ge (.v 4) (.b2 .pow (.c (.int 10)) (.c (.int 15)))) .nil))) (.bf .abs (.cons (.v 4) .nil)) (.c (.int 0))) (.cons (.v 2) (.cons (.c (.int 0)) .nil)))))
  .nil))))))
theorem sc_law_bag : FnScope n_law_bag p_law_bag (defScope s_law_bag) := ⟨rfl, rfl, rfl, by decide +kernel, rfl, by decide +kernel, by decide +kernel⟩
theorem ck_law_bag : b_law_bag.chk ⟨n_law_bag, defScope s_law_bag, true, fns.take 30, cns, gb, kp⟩ (defBody s_law_bag) = true := by decide +kernel
abbrev i_law_bag : Nat := 30
abbrev g_law_bag : List (M Rv) := [f_is_whole, f_is_between, f_is_row, f_is_coin_behind, f_first_wrong, f_wrong_coin, f_check_coins, f_is_amount, f_check_amount, f_fewest_to, f_check_paid, f_fewest_coins, f_common_of, f_first_paid, f_gap_by, f_last_gap, f_greedy_many, f_fault_by, f_check_with_one, f_first_fault, f_is_greedy, f_left_by, f_greatest_by, f_is_chain_by, f_amounts_in, f_first_in, f_all_parts, f_least_trap_by, f_is_chain, f_least_trap]
def f_law_bag : M Rv := Ss.fn (gOf [f_is_whole, f_is_between, f_is_row, f_is_coin_behind, f_first_wrong, f_wrong_coin, f_check_coins, f_is_amount, f_check_amount, f_fewest_to, f_check_paid, f_fewest_coins, f_common_of, f_first_paid, f_gap_by, f_last_gap, f_greedy_many, f_fault_by, f_check_with_one, f_first_fault, f_is_greedy, f_left_by, f_greatest_by, f_is_chain_by, f_amounts_in, f_first_in, f_all_parts, f_least_trap_by, f_is_chain, f_least_trap]) fv fu 2 5 b_law_bag
theorem u_law_bag (args : Pu.Env) (h : args.length = 2) : f_law_bag args = (b_law_bag.den (gOf g_law_bag) fv fu (args ++ [.no, .no, .no])).fn args := fn_ap h
abbrev s_law_take : Stmt := tp 47
def n_law_take : List Str := ["bag", "top", "digit"]
def p_law_take : List Str := ["bag", "top"]
def b_law_take : Ss := (.cons (.ifs (.c2 .gt (.osub 0 (.c (.int 0))) (.c (.int 0))) (.cons (.asg (.tup (.cons (.sub 0 (.c (.int 0))) (.cons (.nm 2) .nil))) (.bf .divmod (.cons (.osub 0 (.c (.int 0))) (.cons (.v 1) .nil))))
  (.cons (.ret (.v 2))
  .nil)) .nil)
  (.wipe [2] (.cons (.asg (.sub 0 (.c (.int 2))) (.b2 .add (.osub 0 (.c (.int 2))) (.c (.int 1))))
  (.cons (.asg (.sub 0 (.c (.int 1))) (.b2 .mod (.bf .int (.cons (.b2 .add (.b2 .add (.b2 .mul (.osub 0 (.c (.int 1))) (.c (.int 16807))) (.b2 .mul (.c (.int 4099)) (.osub 0 (.c (.int 2))))) (.c (.int 1))) .nil)) (.c (.int 2147483647))))
  (.cons (.ret (.b2 .mod (.bf .int (.cons (.b2 .fdiv (.osub 0 (.c (.int 1))) (.c (.int 911))) .nil)) (.v 1)))
  .nil)))))
theorem sc_law_take : FnScope n_law_take p_law_take (defScope s_law_take) := ⟨rfl, rfl, rfl, by decide +kernel, rfl, by decide +kernel, by decide +kernel⟩
theorem ck_law_take : b_law_take.chk ⟨n_law_take, defScope s_law_take, true, fns.take 31, cns, gb, kp⟩ (defBody s_law_take) = true := by decide +kernel
abbrev i_law_take : Nat := 31
abbrev g_law_take : List (M Rv) := [f_is_whole, f_is_between, f_is_row, f_is_coin_behind, f_first_wrong, f_wrong_coin, f_check_coins, f_is_amount, f_check_amount, f_fewest_to, f_check_paid, f_fewest_coins, f_common_of, f_first_paid, f_gap_by, f_last_gap, f_greedy_many, f_fault_by, f_check_with_one, f_first_fault, f_is_greedy, f_left_by, f_greatest_by, f_is_chain_by, f_amounts_in, f_first_in, f_all_parts, f_least_trap_by, f_is_chain, f_least_trap, f_law_bag]
def f_law_take : M Rv := Ss.fn (gOf [f_is_whole, f_is_between, f_is_row, f_is_coin_behind, f_first_wrong, f_wrong_coin, f_check_coins, f_is_amount, f_check_amount, f_fewest_to, f_check_paid, f_fewest_coins, f_common_of, f_first_paid, f_gap_by, f_last_gap, f_greedy_many, f_fault_by, f_check_with_one, f_first_fault, f_is_greedy, f_left_by, f_greatest_by, f_is_chain_by, f_amounts_in, f_first_in, f_all_parts, f_least_trap_by, f_is_chain, f_least_trap, f_law_bag]) fv fu 2 3 b_law_take
theorem u_law_take (args : Pu.Env) (h : args.length = 2) : f_law_take args = (b_law_take.den (gOf g_law_take) fv fu (args ++ [.no])).fn args := fn_ap h
abbrev s_law_pull : Stmt := tp 48
def n_law_pull : List Str := ["bag", "some"]
def p_law_pull : List Str := ["bag", "some"]
def b_law_pull : Ss := (.cons (.ret (.sub (.v 1) (.call 31 (.io 0 (.e (.bf .len (.cons (.v 1) .nil)) .nil)))))
  .nil)
theorem sc_law_pull : FnScope n_law_pull p_law_pull (defScope s_law_pull) := ⟨rfl, rfl, rfl, by decide +kernel, rfl, by decide +kernel, by decide +kernel⟩
theorem ck_law_pull : b_law_pull.chk ⟨n_law_pull, defScope s_law_pull, true, fns.take 32, cns, gb, kp⟩ (defBody s_law_pull) = true := by decide +kernel
abbrev i_law_pull : Nat := 32
abbrev g_law_pull : List (M Rv) := [f_is_whole, f_is_between, f_is_row, f_is_coin_behind, f_first_wrong, f_wrong_coin, f_check_coins, f_is_amount, f_check_amount, f_fewest_to, f_check_paid, f_fewest_coins, f_common_of, f_first_paid, f_gap_by, f_last_gap, f_greedy_many, f_fault_by, f_check_with_one, f_first_fault, f_is_greedy, f_left_by, f_greatest_by, f_is_chain_by, f_amounts_in, f_first_in, f_all_parts, f_least_trap_by, f_is_chain, f_least_trap, f_law_bag, f_law_take]
def f_law_pull : M Rv := Ss.fn (gOf [f_is_whole, f_is_between, f_is_row, f_is_coin_behind, f_first_wrong, f_wrong_coin, f_check_coins, f_is_amount, f_check_amount, f_fewest_to, f_check_paid, f_fewest_coins, f_common_of, f_first_paid, f_gap_by, f_last_gap, f_greedy_many, f_fault_by, f_check_with_one, f_first_fault, f_is_greedy, f_left_by, f_greatest_by, f_is_chain_by, f_amounts_in, f_first_in, f_all_parts, f_least_trap_by, f_is_chain, f_least_trap, f_law_bag, f_law_take]) fv fu 2 2 b_law_pull
theorem u_law_pull (args : Pu.Env) (h : args.length = 2) : f_law_pull args = (b_law_pull.den (gOf g_law_pull) fv fu (args ++ [])).fn args := fn_ap h
abbrev s_law_coins : Stmt := tp 49
def n_law_coins : List Str := ["bag", "top", "found", "turn", "own"]
def p_law_coins : List Str := ["bag", "top"]
def l1_law_coins : Ss := (.cons (.asg (.nm 4) (.b2 .add (.c (.int 1)) (.call 31 (.io 0 (.e (.v 1) .nil)))))
  (.cons (.asg (.nm 2) (.b2 .add (.v 2) (.ite (.c2 .nin (.v 4) (.v 2)) (.lst (.cons (.v 4) .nil)) (.lst .nil))))
  (.wipe [3, 4] .nil)))
def w1_law_coins : S := .fors (.nm 3) (.r1 (.call 32 (.io 0 (.e (.lst (.cons (.c (.int 1)) (.cons (.c (.int 2)) (.cons (.c (.int 2)) (.cons (.c (.int 3)) (.cons (.c (.int 3)) (.cons (.c (.int 3)) .nil))))))) .nil)))) l1_law_coins
def b_law_coins : Ss := (.cons (.asg (.nm 2) (.lst .nil))
  (.wipe [3, 4] (.cons (w1_law_coins)
  (.cons (.ret (.bf .tuple (.cons (.bf .sorted (.cons (.v 2) .nil)) .nil)))
  .nil))))
theorem sc_law_coins : FnScope n_law_coins p_law_coins (defScope s_law_coins) := ⟨rfl, rfl, rfl, by decide +kernel, rfl, by decide +kernel, by decide +kernel⟩
theorem ck_law_coins : b_law_coins.chk ⟨n_law_coins, defScope s_law_coins, true, fns.take 33, cns, gb, kp⟩ (defBody s_law_coins) = true := by decide +kernel
abbrev i_law_coins : Nat := 33
abbrev g_law_coins : List (M Rv) := [f_is_whole, f_is_between, f_is_row, f_is_coin_behind, f_first_wrong, f_wrong_coin, f_check_coins, f_is_amount, f_check_amount, f_fewest_to, f_check_paid, f_fewest_coins, f_common_of, f_first_paid, f_gap_by, f_last_gap, f_greedy_many, f_fault_by, f_check_with_one, f_first_fault, f_is_greedy, f_left_by, f_greatest_by, f_is_chain_by, f_amounts_in, f_first_in, f_all_parts, f_least_trap_by, f_is_chain, f_least_trap, f_law_bag, f_law_take, f_law_pull]
def f_law_coins : M Rv := Ss.fn (gOf [f_is_whole, f_is_between, f_is_row, f_is_coin_behind, f_first_wrong, f_wrong_coin, f_check_coins, f_is_amount, f_check_amount, f_fewest_to, f_check_paid, f_fewest_coins, f_common_of, f_first_paid, f_gap_by, f_last_gap, f_greedy_many, f_fault_by, f_check_with_one, f_first_fault, f_is_greedy, f_left_by, f_greatest_by, f_is_chain_by, f_amounts_in, f_first_in, f_all_parts, f_least_trap_by, f_is_chain, f_least_trap, f_law_bag, f_law_take, f_law_pull]) fv fu 2 5 b_law_coins
theorem u_law_coins (args : Pu.Env) (h : args.length = 2) : f_law_coins args = (b_law_coins.den (gOf g_law_coins) fv fu (args ++ [.no, .no, .no])).fn args := fn_ap h
abbrev s_law_with_one : Stmt := tp 50
def n_law_with_one : List Str := ["bag", "top"]
def p_law_with_one : List Str := ["bag", "top"]
def b_law_with_one : Ss := (.cons (.ret (.bf .tuple (.cons (.sset (.b2 .add (.tup (.cons (.c (.int 1)) .nil)) (.slc (.call 33 (.io 0 (.e (.v 1) .nil))) .none (.some (.c (.int 2)))))) .nil)))
  .nil)
theorem sc_law_with_one : FnScope n_law_with_one p_law_with_one (defScope s_law_with_one) := ⟨rfl, rfl, rfl, by decide +kernel, rfl, by decide +kernel, by decide +kernel⟩
theorem ck_law_with_one : b_law_with_one.chk ⟨n_law_with_one, defScope s_law_with_one, true, fns.take 34, cns, gb, kp⟩ (defBody s_law_with_one) = true := by decide +kernel
abbrev i_law_with_one : Nat := 34
abbrev g_law_with_one : List (M Rv) := [f_is_whole, f_is_between, f_is_row, f_is_coin_behind, f_first_wrong, f_wrong_coin, f_check_coins, f_is_amount, f_check_amount, f_fewest_to, f_check_paid, f_fewest_coins, f_common_of, f_first_paid, f_gap_by, f_last_gap, f_greedy_many, f_fault_by, f_check_with_one, f_first_fault, f_is_greedy, f_left_by, f_greatest_by, f_is_chain_by, f_amounts_in, f_first_in, f_all_parts, f_least_trap_by, f_is_chain, f_least_trap, f_law_bag, f_law_take, f_law_pull, f_law_coins]
def f_law_with_one : M Rv := Ss.fn (gOf [f_is_whole, f_is_between, f_is_row, f_is_coin_behind, f_first_wrong, f_wrong_coin, f_check_coins, f_is_amount, f_check_amount, f_fewest_to, f_check_paid, f_fewest_coins, f_common_of, f_first_paid, f_gap_by, f_last_gap, f_greedy_many, f_fault_by, f_check_with_one, f_first_fault, f_is_greedy, f_left_by, f_greatest_by, f_is_chain_by, f_amounts_in, f_first_in, f_all_parts, f_least_trap_by, f_is_chain, f_least_trap, f_law_bag, f_law_take, f_law_pull, f_law_coins]) fv fu 2 2 b_law_with_one
theorem u_law_with_one (args : Pu.Env) (h : args.length = 2) : f_law_with_one args = (b_law_with_one.den (gOf g_law_with_one) fv fu (args ++ [])).fn args := fn_ap h
abbrev s_law_greedily : Stmt := tp 51
def n_law_greedily : List Str := ["coins", "amount", "found", "coin"]
def p_law_greedily : List Str := ["coins", "amount"]
def l1_law_greedily : Ss := (.cons (.app 2 (.b2 .fdiv (.v 1) (.v 3)))
  (.cons (.asg (.nm 1) (.b2 .sub (.v 1) (.b2 .mul (.b2 .fdiv (.v 1) (.v 3)) (.v 3))))
  (.wipe [3] .nil)))
def w1_law_greedily : S := .fors (.nm 3) (.seq (.rev (.v 0))) l1_law_greedily
def b_law_greedily : Ss := (.cons (.asg (.nm 2) (.lst .nil))
  (.wipe [3] (.cons (w1_law_greedily)
  (.cons (.ret (.bf .tuple (.cons (.rev (.v 2)) .nil)))
  .nil))))
theorem sc_law_greedily : FnScope n_law_greedily p_law_greedily (defScope s_law_greedily) := ⟨rfl, rfl, rfl, by decide +kernel, rfl, by decide +kernel, by decide +kernel⟩
theorem ck_law_greedily : b_law_greedily.chk ⟨n_law_greedily, defScope s_law_greedily, true, fns.take 35, cns, gb, kp⟩ (defBody s_law_greedily) = true := by decide +kernel
abbrev i_law_greedily : Nat := 35
abbrev g_law_greedily : List (M Rv) := [f_is_whole, f_is_between, f_is_row, f_is_coin_behind, f_first_wrong, f_wrong_coin, f_check_coins, f_is_amount, f_check_amount, f_fewest_to, f_check_paid, f_fewest_coins, f_common_of, f_first_paid, f_gap_by, f_last_gap, f_greedy_many, f_fault_by, f_check_with_one, f_first_fault, f_is_greedy, f_left_by, f_greatest_by, f_is_chain_by, f_amounts_in, f_first_in, f_all_parts, f_least_trap_by, f_is_chain, f_least_trap, f_law_bag, f_law_take, f_law_pull, f_law_coins, f_law_with_one]
def f_law_greedily : M Rv := Ss.fn (gOf [f_is_whole, f_is_between, f_is_row, f_is_coin_behind, f_first_wrong, f_wrong_coin, f_check_coins, f_is_amount, f_check_amount, f_fewest_to, f_check_paid, f_fewest_coins, f_common_of, f_first_paid, f_gap_by, f_last_gap, f_greedy_many, f_fault_by, f_check_with_one, f_first_fault, f_is_greedy, f_left_by, f_greatest_by, f_is_chain_by, f_amounts_in, f_first_in, f_all_parts, f_least_trap_by, f_is_chain, f_least_trap, f_law_bag, f_law_take, f_law_pull, f_law_coins, f_law_with_one]) fv fu 2 4 b_law_greedily
theorem u_law_greedily (args : Pu.Env) (h : args.length = 2) : f_law_greedily args = (b_law_greedily.den (gOf g_law_greedily) fv fu (args ++ [.no, .no])).fn args := fn_ap h
abbrev s_law_chain : Stmt := tp 52
def n_law_chain : List Str := ["bag", "found", "turn", "own"]
def p_law_chain : List Str := ["bag"]
def l1_law_chain : Ss := (.cons (.asg (.nm 3) (.b2 .mul (.sub (.v 1) (.neg (.c (.int 1)))) (.b2 .add (.c (.int 2)) (.call 31 (.io 0 (.e (.c (.int 5)) .nil))))))
  (.cons (.asg (.nm 1) (.b2 .add (.v 1) (.ite (.c2 .le (.v 3) (.c (.int 100))) (.lst (.cons (.v 3) .nil)) (.lst .nil))))
  (.wipe [2, 3] .nil)))
def w1_law_chain : S := .fors (.nm 2) (.r1 (.call 31 (.io 0 (.e (.c (.int 3)) .nil)))) l1_law_chain
def b_law_chain : Ss := (.cons (.asg (.nm 1) (.lst (.cons (.c (.int 1)) .nil)))
  (.wipe [2, 3] (.cons (w1_law_chain)
  (.cons (.ret (.bf .tuple (.cons (.v 1) .nil)))
  .nil))))
theorem sc_law_chain : FnScope n_law_chain p_law_chain (defScope s_law_chain) := ⟨rfl, rfl, rfl, by decide +kernel, rfl, by decide +kernel, by decide +kernel⟩
theorem ck_law_chain : b_law_chain.chk ⟨n_law_chain, defScope s_law_chain, true, fns.take 36, cns, gb, kp⟩ (defBody s_law_chain) = true := by decide +kernel
abbrev i_law_chain : Nat := 36
abbrev g_law_chain : List (M Rv) := [f_is_whole, f_is_between, f_is_row, f_is_coin_behind, f_first_wrong, f_wrong_coin, f_check_coins, f_is_amount, f_check_amount, f_fewest_to, f_check_paid, f_fewest_coins, f_common_of, f_first_paid, f_gap_by, f_last_gap, f_greedy_many, f_fault_by, f_check_with_one, f_first_fault, f_is_greedy, f_left_by, f_greatest_by, f_is_chain_by, f_amounts_in, f_first_in, f_all_parts, f_least_trap_by, f_is_chain, f_least_trap, f_law_bag, f_law_take, f_law_pull, f_law_coins, f_law_with_one, f_law_greedily]
def f_law_chain : M Rv := Ss.fn (gOf [f_is_whole, f_is_between, f_is_row, f_is_coin_behind, f_first_wrong, f_wrong_coin, f_check_coins, f_is_amount, f_check_amount, f_fewest_to, f_check_paid, f_fewest_coins, f_common_of, f_first_paid, f_gap_by, f_last_gap, f_greedy_many, f_fault_by, f_check_with_one, f_first_fault, f_is_greedy, f_left_by, f_greatest_by, f_is_chain_by, f_amounts_in, f_first_in, f_all_parts, f_least_trap_by, f_is_chain, f_least_trap, f_law_bag, f_law_take, f_law_pull, f_law_coins, f_law_with_one, f_law_greedily]) fv fu 1 4 b_law_chain
theorem u_law_chain (args : Pu.Env) (h : args.length = 1) : f_law_chain args = (b_law_chain.den (gOf g_law_chain) fv fu (args ++ [.no, .no, .no])).fn args := fn_ap h
abbrev s_law_right : Stmt := tp 53
def n_law_right : List Str := ["bag", "coins", "turn", "other", "due", "amount", "more", "k"]
def p_law_right : List Str := ["bag"]
def s21_law_right : S := .ifs (.c2 .gt (.call 11 (.e (.v 6) (.e (.v 5) .nil))) (.call 11 (.e (.v 3) (.e (.v 5) .nil)))) (.cons (.ret (.c (.bl false)))
  .nil) .nil
def l1_law_right : Ss := (.cons (s21_law_right)
  (.wipe [1, 2, 4, 5, 7] .nil))
def w1_law_right : S := .fors (.nm 5) (.seq (.lst (.cons (.call 31 (.io 0 (.e (.c (.int 300)) .nil))) (.cons (.b2 .add (.sub (.v 3) (.c (.int 1))) (.c (.int 1))) .nil)))) l1_law_right
def s19_law_right : S := .asg (.nm 6) (.tup (.cons (.sub (.v 3) (.c (.int 0))) (.cons (.sub (.v 3) (.c (.int 1))) (.cons (.b2 .add (.sub (.v 3) (.c (.int 0))) (.sub (.v 3) (.c (.int 1)))) .nil))))
def s18_law_right : S := .ifs (.and (.cons (.c2 .eq (.bf .len (.cons (.v 3) .nil)) (.c (.int 2))) (.cons (.c2 .lt (.sub (.v 3) (.neg (.c (.int 1)))) (.c (.int 50))) .nil))) (.cons (s19_law_right)
  (.wipe [1, 2, 4, 5, 7] (.cons (w1_law_right)
  .nil))) .nil
def s16_law_right : S := .ifs (.and (.cons (.c2 .isn (.call 19 (.e (.v 3) .nil)) (.c .non)) (.cons (.e (.call 28 (.e (.v 3) .nil))) .nil))) (.cons (.ret (.c (.bl false)))
  .nil) .nil
def s14_law_right : S := .ifs (.or (.cons (.c2 .ne (.call 28 (.e (.v 3) .nil)) (.c2 .eq (.v 4) (.lst .nil))) (.cons (.c2 .ne (.callk 28 ["coins"] [0] (.cons (.v 3) .nil)) (.c2 .eq (.v 4) (.lst .nil))) .nil))) (.cons (.ret (.c (.bl false)))
  .nil) .nil
def c1_law_right : E := .comp (.r2 (.c (.int 1)) (.bf .len (.cons (.v 3) .nil))) (.nm 7) (.cons (.c2 .ne (.b2 .mod (.bf .int (.cons (.sub (.v 3) (.v 7)) .nil)) (.sub (.v 3) (.b2 .sub (.v 7) (.c (.int 1))))) (.c (.int 0))) .nil) (.v 7) [7]
def s13_law_right : S := .asg (.nm 4) (c1_law_right)
def s12_law_right : S := .asg (.nm 3) (.call 34 (.io 0 (.e (.c (.int 40)) .nil)))
def s10_law_right : S := .ifs (.c2 .ne (.call 11 (.e (.v 1) (.e (.v 5) .nil))) (.bf .sum (.cons (.call 35 (.e (.v 1) (.e (.v 5) .nil))) .nil))) (.cons (.ret (.c (.bl false)))
  .nil) .nil
def s9_law_right : S := .asg (.nm 5) (.call 31 (.io 0 (.e (.c (.int 900)) .nil)))
def l2_law_right : Ss := (.cons (s9_law_right)
  (.cons (s10_law_right)
  (.wipe [2, 3, 4, 5, 6, 7] .nil)))
def w2_law_right : S := .fors (.nm 2) (.r1 (.c (.int 4))) l2_law_right
def s6_law_right : S := .ifs (.or (.cons (.c2 .isn (.call 19 (.e (.v 1) .nil)) (.c .non)) (.cons (.c2 .isn (.call 15 (.e (.v 1) .nil)) (.c .non)) .nil))) (.cons (.ret (.c (.bl false)))
  .nil) .nil
def s4_law_right : S := .ifs (.and (.cons (.c2 .lt (.sub (.v 1) (.neg (.c (.int 1)))) (.c (.int 5))) (.cons (.c2 .isn (.call 29 (.e (.v 1) .nil)) (.c .non)) .nil))) (.cons (.ret (.c (.bl false)))
  .nil) .nil
def s2_law_right : S := .ifs (.or (.cons (.c2 .isn (.call 28 (.e (.v 1) .nil)) (.c (.bl true))) (.cons (.c2 .isn (.call 20 (.e (.v 1) .nil)) (.c (.bl true))) .nil))) (.cons (.ret (.c (.bl false)))
  .nil) .nil
def s1_law_right : S := .asg (.nm 1) (.call 36 (.io 0 .nil))
def b_law_right : Ss := (.cons (s1_law_right)
  (.cons (s2_law_right)
  (.cons (s4_law_right)
  (.cons (s6_law_right)
  (.wipe [2, 3, 4, 5, 6, 7] (.cons (w2_law_right)
  (.cons (s12_law_right)
  (.cons (s13_law_right)
  (.cons (s14_law_right)
  (.cons (s16_law_right)
  (.cons (s18_law_right)
  (.wipe [5, 6] (.cons (.ret (.c (.bl true)))
  .nil)))))))))))))
theorem sc_law_right : FnScope n_law_right p_law_right (defScope s_law_right) := ⟨rfl, rfl, rfl, by decide +kernel, rfl, by decide +kernel, by decide +kernel⟩
theorem ck_law_right : b_law_right.chk ⟨n_law_right, defScope s_law_right, true, fns.take 37, cns, gb, kp⟩ (defBody s_law_right) = true := by decide +kernel
abbrev i_law_right : Nat := 37
abbrev g_law_right : List (M Rv) := [f_is_whole, f_is_between, f_is_row, f_is_coin_behind, f_first_wrong, f_wrong_coin, f_check_coins, f_is_amount, f_check_amount, f_fewest_to, f_check_paid, f_fewest_coins, f_common_of, f_first_paid, f_gap_by, f_last_gap, f_greedy_many, f_fault_by, f_check_with_one, f_first_fault, f_is_greedy, f_left_by, f_greatest_by, f_is_chain_by, f_amounts_in, f_first_in, f_all_parts, f_least_trap_by, f_is_chain, f_least_trap, f_law_bag, f_law_take, f_law_pull, f_law_coins, f_law_with_one, f_law_greedily, f_law_chain]
def f_law_right : M Rv := Ss.fn (gOf [f_is_whole, f_is_between, f_is_row, f_is_coin_behind, f_first_wrong, f_wrong_coin, f_check_coins, f_is_amount, f_check_amount, f_fewest_to, f_check_paid, f_fewest_coins, f_common_of, f_first_paid, f_gap_by, f_last_gap, f_greedy_many, f_fault_by, f_check_with_one, f_first_fault, f_is_greedy, f_left_by, f_greatest_by, f_is_chain_by, f_amounts_in, f_first_in, f_all_parts, f_least_trap_by, f_is_chain, f_least_trap, f_law_bag, f_law_take, f_law_pull, f_law_coins, f_law_with_one, f_law_greedily, f_law_chain]) fv fu 1 8 b_law_right
theorem u_law_right (args : Pu.Env) (h : args.length = 1) : f_law_right args = (b_law_right.den (gOf g_law_right) fv fu (args ++ [.no, .no, .no, .no, .no, .no, .no])).fn args := fn_ap h
abbrev s_law : Stmt := tp 54
def n_law : List Str := ["script", "lap", "bag", "turn"]
def p_law : List Str := ["script"]
def c1_law : E := .comp (.r1 (.c (.int 8))) (.nm 3) .nil (.call 37 (.io 2 .nil)) [3]
def l1_law : Ss := (.cons (.asg (.nm 2) (.call 30 (.e (.v 0) (.e (.v 1) .nil))))
  (.cons (.ifs (.not (.e (.bf .all (.cons (c1_law) .nil)))) (.cons (.ret (.c (.bl false)))
  .nil) .nil)
  (.wipe [1, 2, 3] .nil)))
def w1_law : S := .fors (.nm 1) (.r1 (.bf .max2 (.cons (.c (.int 2)) (.cons (.bf .min2 (.cons (.bf .len (.cons (.v 0) .nil)) (.cons (.c (.int 3)) .nil))) .nil)))) l1_law
def b_law : Ss := (.wipe [1, 2, 3] (.cons (w1_law)
  (.cons (.ret (.c (.bl true)))
  .nil)))
theorem sc_law : FnScope n_law p_law (defScope s_law) := ⟨rfl, rfl, rfl, by decide +kernel, rfl, by decide +kernel, by decide +kernel⟩
theorem ck_law : b_law.chk ⟨n_law, defScope s_law, true, fns.take 38, cns, gb, kp⟩ (defBody s_law) = true := by decide +kernel
abbrev i_law : Nat := 38
abbrev g_law : List (M Rv) := [f_is_whole, f_is_between, f_is_row, f_is_coin_behind, f_first_wrong, f_wrong_coin, f_check_coins, f_is_amount, f_check_amount, f_fewest_to, f_check_paid, f_fewest_coins, f_common_of, f_first_paid, f_gap_by, f_last_gap, f_greedy_many, f_fault_by, f_check_with_one, f_first_fault, f_is_greedy, f_left_by, f_greatest_by, f_is_chain_by, f_amounts_in, f_first_in, f_all_parts, f_least_trap_by, f_is_chain, f_least_trap, f_law_bag, f_law_take, f_law_pull, f_law_coins, f_law_with_one, f_law_greedily, f_law_chain, f_law_right]
def phs : List (M Rv) := [f_is_whole, f_is_between, f_is_row, f_is_coin_behind, f_first_wrong, f_wrong_coin, f_check_coins, f_is_amount, f_check_amount, f_fewest_to, f_check_paid, f_fewest_coins, f_common_of, f_first_paid, f_gap_by, f_last_gap, f_greedy_many, f_fault_by, f_check_with_one, f_first_fault, f_is_greedy, f_left_by, f_greatest_by, f_is_chain_by, f_amounts_in, f_first_in, f_all_parts, f_least_trap_by, f_is_chain, f_least_trap, f_law_bag, f_law_take, f_law_pull, f_law_coins, f_law_with_one, f_law_greedily, f_law_chain, f_law_right]
end K69
/-! Pu, part 27: loops and comprehensions by what they make. -/
namespace Pu
open PySem PySem.Spec PyProof.Rows L2

@[simp] theorem we0 (ρ : Env) : wipeE ρ [] = ρ := Eq.trans rfl rfl
@[simp] theorem we1 (ρ : Env) (v : Nat) (vs : List Nat) : wipeE ρ (v :: vs) = (wipeE ρ vs).set v .no := Eq.trans rfl rfl
@[simp] theorem sz1 : (1 ≤ sizeLine) = True := by decide
@[simp] theorem sz2 : (2 ≤ sizeLine) = True := by decide
@[simp] theorem sz3 : (3 ≤ sizeLine) = True := by decide
@[simp] theorem sz4 : (4 ≤ sizeLine) = True := by decide
@[simp] theorem sz5 : (5 ≤ sizeLine) = True := by decide
@[simp] theorem sz6 : (6 ≤ sizeLine) = True := by decide
@[simp] theorem sz7 : (7 ≤ sizeLine) = True := by decide
@[simp] theorem sz8 : (8 ≤ sizeLine) = True := by decide
@[simp] theorem sz9 : (9 ≤ sizeLine) = True := by decide
@[simp] theorem sz10 : (10 ≤ sizeLine) = True := by decide
@[simp] theorem sz11 : (11 ≤ sizeLine) = True := by decide
@[simp] theorem sz12 : (12 ≤ sizeLine) = True := by decide
@[simp] theorem sz13 : (13 ≤ sizeLine) = True := by decide
@[simp] theorem sz14 : (14 ≤ sizeLine) = True := by decide
@[simp] theorem sz15 : (15 ≤ sizeLine) = True := by decide
@[simp] theorem sz16 : (16 ≤ sizeLine) = True := by decide
@[simp] theorem sz17 : (17 ≤ sizeLine) = True := by decide
@[simp] theorem sz18 : (18 ≤ sizeLine) = True := by decide
@[simp] theorem sz19 : (19 ≤ sizeLine) = True := by decide
@[simp] theorem sz20 : (20 ≤ sizeLine) = True := by decide
@[simp] theorem sz21 : (21 ≤ sizeLine) = True := by decide
@[simp] theorem sz22 : (22 ≤ sizeLine) = True := by decide
@[simp] theorem sz23 : (23 ≤ sizeLine) = True := by decide
@[simp] theorem sz24 : (24 ≤ sizeLine) = True := by decide
@[simp] theorem iteS_tf (b : Bool) : iteS (mret true) (mret false) b = mret b := by cases b <;> rfl
section
variable {g : D → M Unit} {b : Env → Fl}
theorem for_one {d : D} {ds : List D} {ρ ρ2 : Env} (h : toFl (g d ρ) (fun _ => b) = .nx ρ2) : forL g b (d :: ds) ρ = forL g b ds ρ2 := by
  rw [forL]
  cases q : g d ρ with
  | ok u ρ1 =>
    rw [q] at h
    have h : b ρ1 = .nx ρ2 := h
    simp only [h]
  | exc x ρ1 => rw [q] at h; cases h
  | bad => rw [q] at h; cases h
def r3S : D → D → D → M (List D)
  | .int i, .int j, .int k => if k ≠ 0 ∧ k.natAbs < 1073741824 ∧ Builtin.Range.small i j k = true then mret (rngC i k (Builtin.Range.rangeSize i j k).toNat) else mbad
  | _, _, _ => mbad
theorem r3S_ok {i j k : Int} (h : k ≠ 0 ∧ k.natAbs < 1073741824 ∧ Builtin.Range.small i j k = true) : r3S (.int i) (.int j) (.int k) = mret (rngC i k (Builtin.Range.rangeSize i j k).toNat) := by
  show (if k ≠ 0 ∧ k.natAbs < 1073741824 ∧ Builtin.Range.small i j k = true then mret (rngC i k (Builtin.Range.rangeSize i j k).toNat) else mbad) = _
  rw [if_pos h]
@[simp] theorem dn_r3 (G : FT) (W : CT) (a b c : E) : It.den G W (.r3 a b c) = mbind (fz (a.den G W)) fun x => mbind (fz (b.den G W)) fun y => mbind (fz (c.den G W)) fun z => r3S x y z := by
  rw [It.den]
  refine congrArg _ (funext fun x => congrArg _ (funext fun y => congrArg _ (funext fun z => ?_)))
  cases x <;> cases y <;> cases z <;> rfl
theorem cut_drop (xs : List D) (i : Nat) : cutR (.tup xs) (some (i : Int)) none = some (.im (.tup (xs.drop i))) := by
  show some (Rv.im (.tup ((xs.drop (HT.sIx xs.length 0 (some (i : Int)))).take (HT.sIx xs.length xs.length none - HT.sIx xs.length 0 (some (i : Int)))))) = _
  rw [HT.sIx_none, HT.sIx_nat]
  by_cases h : i ≤ xs.length
  · rw [Nat.min_eq_left h, List.take_of_length_le (by rw [List.length_drop]; omega)]
  · rw [Nat.min_eq_right (by omega)]
    simp
    omega
/-- over a list, by what stands behind each part that is done -/
theorem for_pre {α : Type} (f : α → D) (S : List α → Env) : ∀ (post pre : List α), (∀ (a : List α) (x : α) (c : List α), pre ++ post = a ++ x :: c → toFl (g (f x) (S a)) (fun _ => b) = .nx (S (a ++ [x]))) → forL g b (post.map f) (S pre) = .nx (S (pre ++ post))
  | [], pre, h => by
    rw [List.map_nil, for_nil, List.append_nil]
  | x :: post, pre, h => by
    rw [List.map_cons, for_one (h pre x post rfl), for_pre f S post (pre ++ [x]) (fun a y c e => h a y c (by rw [← e, List.append_assoc]; rfl)), List.append_assoc]
    rfl
theorem for_pre0 {α : Type} (f : α → D) (S : List α → Env) (xs : List α) {ρ : Env} (h0 : ρ = S []) (h : ∀ (a : List α) (x : α) (c : List α), xs = a ++ x :: c → toFl (g (f x) (S a)) (fun _ => b) = .nx (S (a ++ [x]))) : forL g b (xs.map f) ρ = .nx (S xs) := by
  rw [h0]
  exact for_pre f S xs [] h
theorem rngL_cons (lo : Int) (n : Nat) : rngL lo (n + 1) = .int lo :: rngL (lo + 1) n := by
  unfold rngL
  rw [List.range_succ_eq_map, List.map_cons, List.map_map]
  congr 1
  · congr 1; omega
  · refine List.map_congr_left fun i _ => ?_
    show D.int (lo + ((i + 1 : Nat) : Int)) = D.int _
    congr 1
    omega
theorem for_rng' (S : Nat → Env) : ∀ (n k0 : Nat) (lo : Int), (∀ k, k0 ≤ k → k < k0 + n → toFl (g (.int (lo + ((k - k0 : Nat) : Int))) (S k)) (fun _ => b) = .nx (S (k + 1))) → forL g b (rngL lo n) (S k0) = .nx (S (k0 + n))
  | 0, k0, lo, h => by
    show forL g b [] _ = _
    rw [for_nil]
    rfl
  | n + 1, k0, lo, h => by
    rw [rngL_cons]
    have h0 := h k0 (Nat.le_refl _) (by omega)
    rw [Nat.sub_self] at h0
    rw [for_one (by simpa using h0), for_rng' S n (k0 + 1) (lo + 1) (fun k h1 h2 => by
      have := h k (by omega) (by omega)
      rwa [show lo + 1 + ((k - (k0 + 1) : Nat) : Int) = lo + ((k - k0 : Nat) : Int) by omega])]
    congr 2
    omega
/-- over lo .. lo + n - 1 -/
theorem for_rng (S : Nat → Env) {n : Nat} {lo : Int} {ρ : Env} (h0 : ρ = S 0) (h : ∀ k, k < n → toFl (g (.int (lo + (k : Int))) (S k)) (fun _ => b) = .nx (S (k + 1))) : forL g b (rngL lo n) ρ = .nx (S n) := by
  rw [h0, for_rng' S n 0 lo (fun k _ h2 => h k (by omega)), Nat.zero_add]
/-- by what holds between the turns -/
theorem for_hold (I : Env → Prop) (h : ∀ d ρ, I ρ → ∃ ρ', toFl (g d ρ) (fun _ => b) = .nx ρ' ∧ I ρ') : ∀ (ds : List D) (ρ : Env), I ρ → ∃ ρ', forL g b ds ρ = .nx ρ' ∧ I ρ'
  | [], ρ, i => ⟨ρ, for_nil g b ρ, i⟩
  | d :: ds, ρ, i => by
    obtain ⟨ρ1, h1, i1⟩ := h d ρ i
    obtain ⟨ρ2, h2, i2⟩ := for_hold I h ds ρ1 i1
    exact ⟨ρ2, by rw [for_one h1, h2], i2⟩
theorem for_holdM (I : Env → Prop) : ∀ (ds : List D) (ρ : Env), (∀ d ∈ ds, ∀ ρ, I ρ → ∃ ρ', toFl (g d ρ) (fun _ => b) = .nx ρ' ∧ I ρ') → I ρ → ∃ ρ', forL g b ds ρ = .nx ρ' ∧ I ρ'
  | [], ρ, h, i => ⟨ρ, for_nil g b ρ, i⟩
  | d :: ds, ρ, h, i => by
    obtain ⟨ρ1, h1, i1⟩ := h d List.mem_cons_self ρ i
    obtain ⟨ρ2, h2, i2⟩ := for_holdM I ds ρ1 (fun d' m => h d' (List.mem_cons_of_mem _ m)) i1
    exact ⟨ρ2, by rw [for_one h1, h2], i2⟩
/-- each turn as long as there is one: the turn's number -/
theorem for_rngI (I : Nat → Env → Prop) : ∀ (n k0 : Nat) (lo : Int) (ρ : Env), (∀ k ρ, k0 ≤ k → k < k0 + n → I k ρ → ∃ ρ', toFl (g (.int (lo + ((k - k0 : Nat) : Int))) ρ) (fun _ => b) = .nx ρ' ∧ I (k + 1) ρ') → I k0 ρ → ∃ ρ', forL g b (rngL lo n) ρ = .nx ρ' ∧ I (k0 + n) ρ'
  | 0, k0, lo, ρ, h, i => ⟨ρ, for_nil g b ρ, i⟩
  | n + 1, k0, lo, ρ, h, i => by
    obtain ⟨ρ1, h1, i1⟩ := h k0 ρ (Nat.le_refl _) (by omega) i
    rw [Nat.sub_self] at h1
    obtain ⟨ρ2, h2, i2⟩ := for_rngI I n (k0 + 1) (lo + 1) ρ1 (fun k ρ a1 a2 j => by
      have := h k ρ (by omega) (by omega) j
      rwa [show lo + 1 + ((k - (k0 + 1) : Nat) : Int) = lo + ((k - k0 : Nat) : Int) by omega]) i1
    refine ⟨ρ2, ?_, by rwa [show k0 + (n + 1) = k0 + 1 + n by omega]⟩
    rw [rngL_cons, for_one (by simpa using h1), h2]
end
/-- over a list, by what holds behind each part that is done -/
theorem for_preI {α : Type} {g : D → M Unit} {b : Env → Fl} (f : α → D) (I : List α → Env → Prop) : ∀ (post pre : List α) (ρ : Env), (∀ (a : List α) (x : α) (c : List α) (ρ : Env), pre ++ post = a ++ x :: c → I a ρ → ∃ ρ', toFl (g (f x) ρ) (fun _ => b) = .nx ρ' ∧ I (a ++ [x]) ρ') → I pre ρ → ∃ ρ', forL g b (post.map f) ρ = .nx ρ' ∧ I (pre ++ post) ρ'
  | [], pre, ρ, h, i => ⟨ρ, by rw [List.map_nil, for_nil], by rw [List.append_nil]; exact i⟩
  | x :: post, pre, ρ, h, i => by
    obtain ⟨ρ1, h1, i1⟩ := h pre x post ρ rfl i
    obtain ⟨ρ2, h2, i2⟩ := for_preI f I post (pre ++ [x]) ρ1 (fun a y c ρ e => h a y c ρ (by rw [← e, List.append_assoc]; rfl)) i1
    refine ⟨ρ2, ?_, by rwa [List.append_assoc] at i2⟩
    rw [List.map_cons, for_one h1, h2]
/-- a while by a measure -/
theorem while_hold {t : M Bool} {b : Env → Fl} {α : Type} (mk : α → Env) (I J : α → Prop) (μ : α → Nat)
    (h : ∀ a, I a → (t (mk a) = .ok false (mk a) ∧ J a) ∨ (t (mk a) = .ok true (mk a) ∧ ∃ a', b (mk a) = .nx (mk a') ∧ I a' ∧ μ a' < μ a)) : ∀ (n : Nat) (a : α), I a → μ a < n → ∃ a', whileL t b n (mk a) = .nx (mk a') ∧ J a'
  | 0, a, _, l => absurd l (Nat.not_lt_zero _)
  | n + 1, a, i, l => by
    rcases h a i with ⟨h1, j⟩ | ⟨h1, a', h2, i', m⟩
    · exact ⟨a, by rw [whileL, h1], j⟩
    · obtain ⟨a2, h3, j⟩ := while_hold mk I J μ h n a' i' (by omega)
      refine ⟨a2, ?_, j⟩
      rw [whileL, h1]
      simp only [h2, h3]
/-! ### comprehensions -/
theorem back_wipe {ρ1 ρ2 : Env} {vs : List Nat} (h : wipeE ρ2 vs = wipeE ρ1 vs) : backE ρ1 ρ2 vs = ρ1 := by
  have hl : ρ2.length = ρ1.length := by rw [← wipeE_len (ρ := ρ2) vs, h, wipeE_len]
  apply List.ext_getElem?
  intro j
  by_cases m : j ∈ vs
  · by_cases hj : j < ρ2.length
    · rw [backE_in m, if_pos hj, List.getElem?_eq_getElem (by omega)]
      rfl
    · rw [List.getElem?_eq_none (by rw [backE_len]; omega), List.getElem?_eq_none (by omega)]
  · rw [backE_get m, ← wipeE_get (ρ := ρ2) m, h, wipeE_get m]
theorem compL_map {α : Type} (f : α → D) (p : α → Bool) (y : α → D) {g : D → M Unit} {t : M Bool} {e : M D} {vs : List Nat} {ρw : Env} : ∀ (xs : List α) (acc : List D) (ρ : Env), wipeE ρ vs = ρw → acc.length + xs.length ≤ sizeLine →
    (∀ x ∈ xs, ∃ ρ2, g (f x) ρw = .ok () ρ2 ∧ t ρ2 = .ok (p x) ρ2 ∧ (p x = true → e ρ2 = .ok (y x) ρ2) ∧ wipeE ρ2 vs = ρw) → ∃ ρ', compL g t e vs (xs.map f) acc ρ = .ok (acc ++ (xs.filter p).map y) ρ' ∧ wipeE ρ' vs = ρw
  | [], acc, ρ, i, hl, h => ⟨ρ, by rw [List.map_nil, compL]; simp, i⟩
  | x :: xs, acc, ρ, i, hl, h => by
    rw [List.length_cons] at hl
    obtain ⟨ρ2, h1, h2, h3, h4⟩ := h x List.mem_cons_self
    have hr := fun x' hx => h x' (List.mem_cons_of_mem _ hx)
    rw [List.map_cons]
    cases q : p x with
    | true =>
      have h5 := h3 q
      obtain ⟨ρ', h7, h8⟩ := compL_map f p y xs (acc ++ [y x]) ρ2 h4 (by rw [List.length_append]; simp only [List.length_cons, List.length_nil]; omega) hr
      refine ⟨ρ', ?_, h8⟩
      rw [q] at h2
      rw [compL]
      simp only [i, h1, h2, h5]
      rw [if_pos (by omega), h7, List.filter_cons_of_pos q, List.map_cons, List.append_assoc]
      rfl
    | false =>
      obtain ⟨ρ', h7, h8⟩ := compL_map f p y xs acc ρ2 h4 (by omega) hr
      refine ⟨ρ', ?_, h8⟩
      rw [q] at h2
      rw [compL]
      simp only [i, h1, h2]
      rw [h7, List.filter_cons_of_neg (by rw [q]; decide)]
/-- a comprehension that changes nothing -/
theorem comp_map {α : Type} (f : α → D) (p : α → Bool) (y : α → D) (xs : List α) {m : M (List D)} {g : D → M Unit} {t : M Bool} {e : M D} {vs : List Nat} {ρ ρ1 : Env} (hi : m ρ = .ok (xs.map f) ρ1) (hn : noOwn ρ1 vs = true) (hl : xs.length ≤ sizeLine)
    (h : ∀ x ∈ xs, ∃ ρ2, g (f x) (wipeE ρ1 vs) = .ok () ρ2 ∧ t ρ2 = .ok (p x) ρ2 ∧ (p x = true → e ρ2 = .ok (y x) ρ2) ∧ wipeE ρ2 vs = wipeE ρ1 vs) : compM m g t e vs ρ = .ok (.nw ((xs.filter p).map y)) ρ1 := by
  obtain ⟨ρ', h1, h2⟩ := compL_map f p y xs [] ρ1 rfl (by simpa using hl) h
  rw [comp_ap hi hn h1, back_wipe h2]
  rfl
/-- a comprehension by what holds between its items, each with the same answer -/
theorem comp_hold (I : Env → Prop) (y : D) {m : M (List D)} {g : D → M Unit} {t : M Bool} {e : M D} {vs : List Nat} {ρ ρ1 : Env} {ds : List D} (hi : m ρ = .ok ds ρ1) (hn : noOwn ρ1 vs = true) (hl : ds.length ≤ sizeLine) (h0 : I ρ1)
    (h : ∀ d ∈ ds, ∀ ρ, I ρ → ∃ ρ1 ρ2 ρ3, g d (wipeE ρ vs) = .ok () ρ1 ∧ t ρ1 = .ok true ρ2 ∧ e ρ2 = .ok y ρ3 ∧ I ρ3) : ∃ ρ', compM m g t e vs ρ = .ok (.nw (ds.map fun _ => y)) (backE ρ1 ρ' vs) ∧ I ρ' := by
  obtain ⟨ρ', h1, h2⟩ := comp_inv (g := g) (t := t) (e := e) (vs := vs) I (fun _ => true) (fun _ => y) ds [] ρ1 h0 (by simpa using hl) (fun d hd ρ i => by
    obtain ⟨r1, r2, r3, a1, a2, a3, a4⟩ := h d hd ρ i
    exact ⟨r1, r2, a1, a2, fun _ => ⟨r3, a3, a4⟩, fun z => by cases z⟩)
  refine ⟨ρ', ?_, h2⟩
  rw [comp_ap hi hn h1, List.filter_eq_self.mpr (by simp)]
  rfl
end Pu
/-! amounts: fewest coins, ways -/
namespace Pm
/-- k coins of cs pay a -/
inductive Pay (cs : List Nat) : Nat → Nat → Prop where
  | nil : Pay cs 0 0
  | cons {c k a : Nat} : c ∈ cs → Pay cs k a → Pay cs (k + 1) (c + a)
theorem Pay.add {cs : List Nat} {k a l b : Nat} (h : Pay cs k a) (g : Pay cs l b) : Pay cs (k + l) (a + b) := by
  induction h with
  | nil => simpa using g
  | @cons c k a hc _ ih =>
    have p := Pay.cons hc ih
    rwa [show k + l + 1 = k + 1 + l by omega, show c + (a + b) = c + a + b by omega] at p
theorem Pay.mono {cs ds : List Nat} {k a : Nat} (h : Pay cs k a) (s : ∀ c ∈ cs, c ∈ ds) : Pay ds k a := by
  induction h with
  | nil => exact .nil
  | cons hc _ ih => exact .cons (s _ hc) ih
theorem Pay.one {cs : List Nat} {c : Nat} (h : c ∈ cs) : Pay cs 1 c := Pay.cons h .nil
theorem Pay.rep {cs : List Nat} {c : Nat} (h : c ∈ cs) : ∀ q, Pay cs q (q * c)
  | 0 => by rw [Nat.zero_mul]; exact .nil
  | q + 1 => by
    rw [Nat.succ_mul, Nat.add_comm (q * c) c]
    exact .cons h (Pay.rep h q)
theorem Pay.inv {cs : List Nat} {k a : Nat} (h : Pay cs k a) : (k = 0 ∧ a = 0) ∨ ∃ c j b, c ∈ cs ∧ k = j + 1 ∧ a = c + b ∧ Pay cs j b := by
  cases h with
  | nil => exact .inl ⟨rfl, rfl⟩
  | cons hc h => exact .inr ⟨_, _, _, hc, rfl, rfl, h⟩
theorem Pay.le {cs : List Nat} {m k a : Nat} (h : Pay cs k a) (s : ∀ c ∈ cs, c ≤ m) : a ≤ k * m := by
  induction h with
  | nil => simp
  | cons hc _ ih => have := s _ hc; rw [Nat.succ_mul]; omega
theorem Pay.ge {cs : List Nat} {m k a : Nat} (h : Pay cs k a) (s : ∀ c ∈ cs, m ≤ c) : k * m ≤ a := by
  induction h with
  | nil => simp
  | cons hc _ ih => have := s _ hc; rw [Nat.succ_mul]; omega
/-- the least of some, if some -/
def minO : List (Option Nat) → Option Nat
  | [] => none
  | none :: r => minO r
  | some x :: r => match minO r with
    | none => some x
    | some y => some (min x y)
theorem minO_none : ∀ {xs : List (Option Nat)}, minO xs = none ↔ ∀ x ∈ xs, x = none
  | [] => by simp [minO]
  | none :: r => by simp [minO, minO_none (xs := r)]
  | some x :: r => by
    rw [minO]
    cases minO r <;> simp
theorem minO_some : ∀ {xs : List (Option Nat)} {k : Nat}, minO xs = some k ↔ some k ∈ xs ∧ ∀ j, some j ∈ xs → k ≤ j
  | [], k => by simp [minO]
  | none :: r, k => by simp [minO, minO_some (xs := r)]
  | some x :: r, k => by
    rw [minO]
    cases q : minO r with
    | none =>
      have := minO_none.mp q
      simp only [Option.some.injEq, List.mem_cons]
      constructor
      · rintro rfl
        refine ⟨.inl rfl, fun j hj => ?_⟩
        rcases hj with hj | hj
        · omega
        · have := this _ hj; cases this
      · rintro ⟨h | h, _⟩
        · exact h.symm
        · have := this _ h; cases this
    | some y =>
      obtain ⟨h1, h2⟩ := minO_some.mp q
      simp only [Option.some.injEq, List.mem_cons]
      constructor
      · rintro rfl
        refine ⟨?_, fun j hj => ?_⟩
        · by_cases h : x ≤ y
          · left; omega
          · right; rw [Nat.min_eq_right (by omega)]; exact h1
        · rcases hj with hj | hj
          · omega
          · have := h2 _ hj; omega
      · rintro ⟨h | h, g⟩
        · have := g y (.inr h1)
          rw [Nat.min_eq_left (by omega)]
          exact h.symm
        · have := h2 _ h
          have := g x (.inl rfl)
          have := g y (.inr h1)
          rw [Nat.min_def]
          split <;> omega
/-- the fewest coins, fuel ahead -/
def fewF (cs : List Nat) : Nat → Nat → Option Nat
  | _, 0 => some 0
  | 0, _ + 1 => none
  | f + 1, a + 1 => minO ((cs.filter fun c => decide (c ≤ a + 1)).map fun c => (fewF cs f (a + 1 - c)).map (· + 1))
theorem fewF_spec {cs : List Nat} (h1 : ∀ c ∈ cs, 1 ≤ c) : ∀ (f a : Nat), a ≤ f → (∀ k, fewF cs f a = some k ↔ Pay cs k a ∧ ∀ j, Pay cs j a → k ≤ j) ∧ (fewF cs f a = none ↔ ∀ k, ¬ Pay cs k a)
  | f, 0, _ => by
    have e : fewF cs f 0 = some 0 := by cases f <;> rfl
    rw [e]
    refine ⟨fun k => ⟨fun z => ?_, fun ⟨z, g⟩ => ?_⟩, ⟨fun z => (by cases z), fun z => absurd Pay.nil (z 0)⟩⟩
    · cases z; exact ⟨.nil, fun j _ => Nat.zero_le _⟩
    · have := g 0 .nil
      have e : k = 0 := by omega
      rw [e]
  | 0, a + 1, h => by omega
  | f + 1, a + 1, h => by
    have ih := fun c (hc : c ∈ cs) => fewF_spec h1 f (a + 1 - c) (by have := h1 c hc; omega)
    have key : ∀ k, some k ∈ ((cs.filter fun c => decide (c ≤ a + 1)).map fun c => (fewF cs f (a + 1 - c)).map (· + 1)) ↔ ∃ c ∈ cs, ∃ j b, k = j + 1 ∧ a + 1 = c + b ∧ Pay cs j b ∧ ∀ l, Pay cs l b → j ≤ l := fun k => by
      simp only [List.mem_map, List.mem_filter, decide_eq_true_eq, Option.map_eq_some_iff]
      constructor
      · rintro ⟨c, ⟨hc, hl⟩, j, e, rfl⟩
        obtain ⟨p, q⟩ := ((ih c hc).1 j).mp e
        exact ⟨c, hc, j, a + 1 - c, rfl, by omega, p, q⟩
      · rintro ⟨c, hc, j, b, rfl, e, p, q⟩
        have eb : a + 1 - c = b := by omega
        refine ⟨c, ⟨hc, by omega⟩, j, ((ih c hc).1 j).mpr (by rw [eb]; exact ⟨p, q⟩), rfl⟩
    have least : ∀ {b j : Nat}, b ≤ f → Pay cs j b → ∃ i, i ≤ j ∧ Pay cs i b ∧ ∀ l, Pay cs l b → i ≤ l := fun {b j} hb p => by
      cases q : fewF cs f b with
      | none => exact absurd p (((fewF_spec h1 f b hb).2).mp q j)
      | some i =>
        obtain ⟨p1, p2⟩ := ((fewF_spec h1 f b hb).1 i).mp q
        exact ⟨i, p2 j p, p1, p2⟩
    rw [fewF]
    refine ⟨fun k => ?_, ?_⟩
    · rw [minO_some]
      constructor
      · rintro ⟨h2, h3⟩
        obtain ⟨c, hc, j, b, rfl, e, p, q⟩ := (key k).mp h2
        refine ⟨by rw [e]; exact .cons hc p, fun l hl => ?_⟩
        rcases hl.inv with ⟨_, z⟩ | ⟨c', j', b', hc', rfl, e', p'⟩
        · omega
        · have := h1 c' hc'
          obtain ⟨i, i1, i2, i3⟩ := least (b := b') (by omega) p'
          have := h3 (i + 1) ((key _).mpr ⟨c', hc', i, b', rfl, e', i2, i3⟩)
          omega
      · rintro ⟨p, g⟩
        rcases p.inv with ⟨_, z⟩ | ⟨c, j, b, hc, rfl, e, p'⟩
        · omega
        · have := h1 c hc
          refine ⟨(key _).mpr ⟨c, hc, j, b, rfl, e, p', fun l hl => ?_⟩, fun j' hj' => ?_⟩
          · have := g (l + 1) (by rw [e]; exact .cons hc hl)
            omega
          · obtain ⟨c', hc', j'', b', rfl, e', p'', _⟩ := (key _).mp hj'
            exact g _ (by rw [e']; exact .cons hc' p'')
    · rw [minO_none]
      constructor
      · intro h2 k p
        rcases p.inv with ⟨_, z⟩ | ⟨c, j, b, hc, rfl, e, p'⟩
        · omega
        · have := h1 c hc
          obtain ⟨i, i1, i2, i3⟩ := least (b := b) (by omega) p'
          have := h2 _ ((key (i + 1)).mpr ⟨c, hc, i, b, rfl, e, i2, i3⟩)
          cases this
      · intro h2 x hx
        cases x with
        | none => rfl
        | some k =>
          obtain ⟨c, hc, j, b, rfl, e, p, _⟩ := (key k).mp hx
          exact absurd (by rw [e]; exact .cons hc p) (h2 (j + 1))
def few (cs : List Nat) (a : Nat) : Option Nat := fewF cs a a
theorem few_some {cs : List Nat} (h1 : ∀ c ∈ cs, 1 ≤ c) {a k : Nat} : few cs a = some k ↔ Pay cs k a ∧ ∀ j, Pay cs j a → k ≤ j := (fewF_spec h1 a a (Nat.le_refl _)).1 k
theorem few_none {cs : List Nat} (h1 : ∀ c ∈ cs, 1 ≤ c) {a : Nat} : few cs a = none ↔ ∀ k, ¬ Pay cs k a := (fewF_spec h1 a a (Nat.le_refl _)).2
theorem few_ext {cs ds : List Nat} (h1 : ∀ c ∈ cs, 1 ≤ c) (h2 : ∀ c ∈ ds, 1 ≤ c) {a b : Nat} (h : ∀ k, Pay cs k a ↔ Pay ds k b) : few cs a = few ds b := by
  cases q : few ds b with
  | none => exact (few_none h1).mpr fun k p => (few_none h2).mp q k ((h k).mp p)
  | some k =>
    obtain ⟨p, g⟩ := (few_some h2).mp q
    exact (few_some h1).mpr ⟨(h k).mpr p, fun j hj => g j ((h j).mp hj)⟩
theorem few_zero (cs : List Nat) : few cs 0 = some 0 := rfl
theorem few_pay {cs : List Nat} (h1 : ∀ c ∈ cs, 1 ≤ c) {a k : Nat} (p : Pay cs k a) : ∃ m, few cs a = some m ∧ m ≤ k := by
  cases q : few cs a with
  | none => exact absurd p ((few_none h1).mp q k)
  | some m => exact ⟨m, rfl, ((few_some h1).mp q).2 k p⟩
/-- a coin down -/
theorem few_step {cs : List Nat} (h1 : ∀ c ∈ cs, 1 ≤ c) (a : Nat) (ha : 0 < a) : few cs a = minO ((cs.filter fun c => decide (c ≤ a)).map fun c => (few cs (a - c)).map (· + 1)) := by
  cases a with
  | zero => omega
  | succ a =>
    show fewF cs (a + 1) (a + 1) = _
    rw [fewF]
    congr 1
    refine List.map_congr_left fun c hc => ?_
    have hm := List.mem_filter.mp hc
    have := h1 c hm.1
    congr 1
    cases q : few cs (a + 1 - c) with
    | none => exact (fewF_spec h1 a _ (by omega)).2.mpr ((few_none h1).mp q)
    | some m => exact ((fewF_spec h1 a _ (by omega)).1 m).mpr ((few_some h1).mp q)
def min2O : Option Nat → Option Nat → Option Nat
  | none, y => y
  | some x, none => some x
  | some x, some y => some (min x y)
/-- with a coin more -/
theorem Pay.split {cs : List Nat} {c k a : Nat} (h : Pay (cs ++ [c]) k a) : Pay cs k a ∨ ∃ j b, k = j + 1 ∧ a = c + b ∧ Pay (cs ++ [c]) j b := by
  induction h with
  | nil => exact .inl .nil
  | @cons d j b hd h ih =>
    rcases List.mem_append.mp hd with hd' | hd'
    · rcases ih with ih | ⟨i, e, rfl, rfl, p⟩
      · exact .inl (.cons hd' ih)
      · exact .inr ⟨i + 1, d + e, rfl, by omega, .cons hd p⟩
    · have e : d = c := by simpa using hd'
      subst e
      exact .inr ⟨j, b, rfl, rfl, h⟩
theorem few_snoc {cs : List Nat} {c : Nat} (h1 : ∀ d ∈ cs, 1 ≤ d) (hc : 1 ≤ c) (a : Nat) (ha : c ≤ a) : few (cs ++ [c]) a = min2O (few cs a) ((few (cs ++ [c]) (a - c)).map (· + 1)) := by
  have h2 : ∀ d ∈ cs ++ [c], 1 ≤ d := fun d hd => by
    rcases List.mem_append.mp hd with hd | hd
    · exact h1 d hd
    · have e : d = c := by simpa using hd
      omega
  have up : ∀ {k}, Pay cs k a → Pay (cs ++ [c]) k a := fun p => p.mono fun d hd => List.mem_append.mpr (.inl hd)
  have dn : ∀ {k}, Pay (cs ++ [c]) k (a - c) → Pay (cs ++ [c]) (k + 1) a := fun {k} p => by
    have := Pay.cons (show c ∈ cs ++ [c] by simp) p
    rwa [show c + (a - c) = a by omega] at this
  have sp : ∀ {k}, Pay (cs ++ [c]) k a → Pay cs k a ∨ ∃ j, k = j + 1 ∧ Pay (cs ++ [c]) j (a - c) := fun {k} p => by
    rcases p.split with h | ⟨j, b, e1, e2, p'⟩
    · exact .inl h
    · exact .inr ⟨j, e1, by rwa [show a - c = b by omega]⟩
  cases q1 : few cs a with
  | none =>
    have n1 := (few_none h1).mp q1
    cases q2 : few (cs ++ [c]) (a - c) with
    | none =>
      have n2 := (few_none h2).mp q2
      exact (few_none h2).mpr fun k p => by
        rcases sp p with h | ⟨j, _, h⟩
        · exact n1 k h
        · exact n2 j h
    | some m =>
      obtain ⟨p2, g2⟩ := (few_some h2).mp q2
      refine (few_some h2).mpr ⟨dn p2, fun j p => ?_⟩
      rcases sp p with h | ⟨i, rfl, h⟩
      · exact absurd h (n1 _)
      · exact Nat.succ_le_succ (g2 i h)
  | some k1 =>
    obtain ⟨p1, g1⟩ := (few_some h1).mp q1
    cases q2 : few (cs ++ [c]) (a - c) with
    | none =>
      have n2 := (few_none h2).mp q2
      refine (few_some h2).mpr ⟨up p1, fun j p => ?_⟩
      rcases sp p with h | ⟨i, rfl, h⟩
      · exact g1 _ h
      · exact absurd h (n2 _)
    | some m =>
      obtain ⟨p2, g2⟩ := (few_some h2).mp q2
      show few (cs ++ [c]) a = some (min k1 (m + 1))
      refine (few_some h2).mpr ⟨?_, fun j p => ?_⟩
      · by_cases h : k1 ≤ m + 1
        · rw [Nat.min_eq_left h]; exact up p1
        · rw [Nat.min_eq_right (by omega)]; exact dn p2
      · rcases sp p with h | ⟨i, rfl, h⟩
        · have := g1 _ h; omega
        · have := g2 i h
          exact Nat.le_trans (Nat.min_le_right _ _) (Nat.succ_le_succ this)
theorem few_snoc_lt {cs : List Nat} {c : Nat} (h1 : ∀ d ∈ cs, 1 ≤ d) (a : Nat) (ha : a < c) : few (cs ++ [c]) a = few cs a := by
  have h2 : ∀ d ∈ cs ++ [c], 1 ≤ d := fun d hd => by
    rcases List.mem_append.mp hd with hd | hd
    · exact h1 d hd
    · have e : d = c := by simpa using hd
      omega
  refine few_ext h2 h1 fun k => ⟨fun p => ?_, fun p => p.mono fun d hd => List.mem_append.mpr (.inl hd)⟩
  rcases p.split with h | ⟨j, b, e1, e2, p'⟩
  · exact h
  · omega
/-! ### ways -/
/-- in how many ways, the coins the last one first -/
def wayR : List Nat → Nat → Nat
  | [], a => if a = 0 then 1 else 0
  | c :: r, a => wayR r a + (if h : 1 ≤ c ∧ c ≤ a then wayR (c :: r) (a - c) else 0)
termination_by r a => (r.length, a)
decreasing_by
  · simp_wf; left; omega
  · simp_wf; right; omega
def way (cs : List Nat) (a : Nat) : Nat := wayR cs.reverse a
theorem wayR_le {c a : Nat} {r : List Nat} (h1 : 1 ≤ c) (h : c ≤ a) : wayR (c :: r) a = wayR r a + wayR (c :: r) (a - c) := by
  rw [wayR, dif_pos ⟨h1, h⟩]
theorem wayR_lt {c a : Nat} {r : List Nat} (h : a < c) : wayR (c :: r) a = wayR r a := by
  rw [wayR, dif_neg (by omega)]
  rfl
theorem wayR_out {c : Nat} {l2 : List Nat} (hc : 1 ≤ c) : ∀ (l1 : List Nat) (a : Nat), (∀ d ∈ l1, 1 ≤ d) → (c ≤ a → wayR (l1 ++ c :: l2) a = wayR (l1 ++ l2) a + wayR (l1 ++ c :: l2) (a - c)) ∧ (a < c → wayR (l1 ++ c :: l2) a = wayR (l1 ++ l2) a)
  | [], a, h => ⟨fun g => wayR_le hc g, fun g => wayR_lt g⟩
  | d :: l1, a, h => by
    have hd := h d List.mem_cons_self
    have h' := fun e he => h e (List.mem_cons_of_mem _ he)
    induction a using Nat.strongRecOn with
    | ind a ih =>
      have o := fun b => wayR_out (l2 := l2) hc l1 b h'
      simp only [List.cons_append] at ih ⊢
      refine ⟨fun g => ?_, fun g => ?_⟩
      · by_cases e : d ≤ a
        · rw [wayR_le hd e, wayR_le (r := l1 ++ l2) hd e, (o a).1 g]
          have i := ih (a - d) (by omega)
          by_cases e2 : c ≤ a - d
          · rw [i.1 e2, wayR_le (a := a - c) hd (by omega), show a - c - d = a - d - c by omega]
            omega
          · rw [i.2 (by omega), wayR_lt (a := a - c) (by omega)]
            omega
        · rw [wayR_lt (by omega), wayR_lt (r := l1 ++ l2) (by omega), (o a).1 g, wayR_lt (a := a - c) (by omega)]
      · by_cases e : d ≤ a
        · rw [wayR_le hd e, wayR_le (r := l1 ++ l2) hd e, (o a).2 g, (ih (a - d) (by omega)).2 (by omega)]
        · rw [wayR_lt (by omega), wayR_lt (r := l1 ++ l2) (by omega), (o a).2 g]
theorem way_nil (a : Nat) : way [] a = if a = 0 then 1 else 0 := by
  show wayR [] a = _
  rw [wayR]
theorem way_snoc {cs : List Nat} {c a : Nat} (hc : 1 ≤ c) (h : c ≤ a) : way (cs ++ [c]) a = way cs a + way (cs ++ [c]) (a - c) := by
  unfold way
  rw [List.reverse_append]
  exact wayR_le hc h
theorem way_snoc_lt {cs : List Nat} {c a : Nat} (h : a < c) : way (cs ++ [c]) a = way cs a := by
  unfold way
  rw [List.reverse_append]
  exact wayR_lt h
theorem way_out {l1 l2 : List Nat} {c a : Nat} (hc : ∀ d ∈ l1 ++ c :: l2, 1 ≤ d) (h : c ≤ a) : way (l1 ++ c :: l2) a = way (l1 ++ l2) a + way (l1 ++ c :: l2) (a - c) := by
  unfold way
  rw [List.reverse_append, List.reverse_cons, List.append_assoc, List.reverse_append]
  exact (wayR_out (hc c (by simp)) l2.reverse a fun d hd => hc d (by simp at hd; simp [hd])).1 h
theorem way_mono {cs : List Nat} {c : Nat} (h1 : ∀ d ∈ cs, 1 ≤ d) (hc : c ∈ cs) (a : Nat) : way cs a ≤ way cs (a + c) := by
  obtain ⟨l1, l2, rfl⟩ := List.append_of_mem hc
  rw [way_out h1 (Nat.le_add_left c a), Nat.add_sub_cancel]
  exact Nat.le_add_left _ _
theorem way_zero (cs : List Nat) (h1 : ∀ d ∈ cs, 1 ≤ d) : way cs 0 = 1 := by
  unfold way
  have h : ∀ rs : List Nat, (∀ d ∈ rs, 1 ≤ d) → wayR rs 0 = 1 := fun rs => by
    induction rs with
    | nil => intro _; rw [wayR]; rfl
    | cons r rs ih =>
      intro h
      rw [wayR_lt (h r List.mem_cons_self)]
      exact ih fun d hd => h d (List.mem_cons_of_mem _ hd)
  exact h _ fun d hd => h1 d (by simpa using hd)
theorem minO_succ : ∀ xs : List (Option Nat), minO (xs.map fun o => o.map (· + 1)) = (minO xs).map (· + 1)
  | [] => rfl
  | none :: r => by simp [minO, minO_succ r]
  | some x :: r => by
    simp only [List.map_cons, Option.map_some, minO, minO_succ r]
    cases minO r with
    | none => rfl
    | some y => simp only [Option.map_some]; congr 1; omega
end Pm
/-! amounts: gaps -/
namespace Pm
def Paid (cs : List Nat) (a : Nat) : Prop := ∃ k, Pay cs k a
theorem Paid.zero (cs : List Nat) : Paid cs 0 := ⟨0, .nil⟩
theorem Paid.add {cs : List Nat} {a b : Nat} (h : Paid cs a) (g : Paid cs b) : Paid cs (a + b) := by
  obtain ⟨k, h⟩ := h
  obtain ⟨l, g⟩ := g
  exact ⟨_, h.add g⟩
theorem Paid.coin {cs : List Nat} {c : Nat} (h : c ∈ cs) : Paid cs c := ⟨_, Pay.one h⟩
theorem Paid.mul {cs : List Nat} {a : Nat} (h : Paid cs a) : ∀ n, Paid cs (n * a)
  | 0 => by rw [Nat.zero_mul]; exact .zero cs
  | n + 1 => by rw [Nat.succ_mul]; exact (Paid.mul h n).add h
theorem Paid.mono {cs ds : List Nat} {a : Nat} (h : Paid cs a) (s : ∀ c ∈ cs, c ∈ ds) : Paid ds a := by
  obtain ⟨k, h⟩ := h
  exact ⟨k, h.mono s⟩
theorem few_paid {cs : List Nat} (h1 : ∀ c ∈ cs, 1 ≤ c) {a : Nat} : few cs a ≠ none ↔ Paid cs a := by
  constructor
  · intro h
    cases q : few cs a with
    | none => exact absurd q h
    | some k => exact ⟨k, ((few_some h1).mp q).1⟩
  · rintro ⟨k, p⟩ h
    exact (few_none h1).mp h k p
/-! ### rests -/
def InS (cs : List Nat) (m x : Nat) : Prop := ∃ a, Paid cs a ∧ a % m = x % m
theorem InS.add {cs : List Nat} {m x y : Nat} (h : InS cs m x) (g : InS cs m y) : InS cs m (x + y) := by
  obtain ⟨a, p, e⟩ := h
  obtain ⟨b, q, f⟩ := g
  exact ⟨a + b, p.add q, by rw [Nat.add_mod, e, f, ← Nat.add_mod]⟩
theorem InS.mul {cs : List Nat} {m x : Nat} (h : InS cs m x) : ∀ n, InS cs m (n * x)
  | 0 => ⟨0, .zero cs, by rw [Nat.zero_mul]⟩
  | n + 1 => by rw [Nat.succ_mul]; exact (InS.mul h n).add h
theorem InS.sub {cs : List Nat} {m x y : Nat} (hm : 1 ≤ m) (h : InS cs m x) (g : InS cs m y) (le : y ≤ x) : InS cs m (x - y) := by
  obtain ⟨a, p, e⟩ := h.add (g.mul (m - 1))
  refine ⟨a, p, e.trans ?_⟩
  have : x + (m - 1) * y = x - y + m * y := by
    obtain ⟨n, rfl⟩ : ∃ n, m = n + 1 := ⟨m - 1, by omega⟩
    rw [Nat.add_sub_cancel, Nat.succ_mul]
    omega
  rw [this, Nat.add_mul_mod_self_left]
theorem InS.gcd {cs : List Nat} {m : Nat} (hm : 1 ≤ m) : ∀ {x y : Nat}, InS cs m x → InS cs m y → InS cs m (Nat.gcd x y) := fun {x y} => by
  induction x, y using Nat.gcd.induction with
  | H0 n => intro _ h; rwa [Nat.gcd_zero_left]
  | H1 x y hx ih =>
    intro h g
    rw [Nat.gcd_rec]
    refine ih ?_ h
    have e : y % x = y - y / x * x := by
      have := Nat.div_add_mod y x
      rw [Nat.mul_comm] at this
      omega
    rw [e]
    exact g.sub hm (h.mul _) (Nat.div_mul_le_self y x)
def gcdL (cs : List Nat) : Nat := cs.foldl Nat.gcd 0
theorem gcdL_from {cs : List Nat} {m : Nat} (hm : 1 ≤ m) : ∀ (ds : List Nat) (g : Nat), (∀ c ∈ ds, c ∈ cs) → InS cs m g → InS cs m (ds.foldl Nat.gcd g)
  | [], g, _, h => h
  | d :: ds, g, hd, h => gcdL_from hm ds _ (fun c hc => hd c (List.mem_cons_of_mem _ hc)) (InS.gcd hm h ⟨d, .coin (hd d List.mem_cons_self), rfl⟩)
theorem gcdL_in {cs : List Nat} {m : Nat} (hm : 1 ≤ m) : InS cs m (gcdL cs) := gcdL_from hm cs 0 (fun _ h => h) ⟨0, .zero cs, rfl⟩
theorem foldl_gcd : ∀ (ds : List Nat) (g : Nat), ds.foldl Nat.gcd g ∣ g ∧ ∀ d ∈ ds, ds.foldl Nat.gcd g ∣ d
  | [], g => ⟨Nat.dvd_refl g, fun d h => by cases h⟩
  | e :: ds, g => by
    obtain ⟨h1, h2⟩ := foldl_gcd ds (Nat.gcd g e)
    refine ⟨Nat.dvd_trans h1 (Nat.gcd_dvd_left g e), fun d hd => ?_⟩
    rcases List.mem_cons.mp hd with rfl | hd
    · exact Nat.dvd_trans h1 (Nat.gcd_dvd_right g d)
    · exact h2 d hd
theorem gcdL_dvd {cs : List Nat} {c : Nat} (h : c ∈ cs) : gcdL cs ∣ c := (foldl_gcd cs 0).2 c h
theorem gcdL_pos {cs : List Nat} {c : Nat} (h : c ∈ cs) (h1 : 1 ≤ c) : 1 ≤ gcdL cs := Nat.pos_of_dvd_of_pos (gcdL_dvd h) h1
theorem foldl_mul (g : Nat) : ∀ (ls : List Nat) (x : Nat), (ls.map (g * ·)).foldl Nat.gcd (g * x) = g * ls.foldl Nat.gcd x
  | [], x => rfl
  | l :: ls, x => by
    rw [List.map_cons, List.foldl_cons, List.foldl_cons, Nat.gcd_mul_left, foldl_mul g ls]
theorem gcdL_mul (g : Nat) (ls : List Nat) : gcdL (ls.map (g * ·)) = g * gcdL ls := by
  unfold gcdL
  rw [← foldl_mul g ls 0, Nat.mul_zero]
theorem Paid.dvd {cs : List Nat} {g a : Nat} (h : ∀ c ∈ cs, g ∣ c) (p : Paid cs a) : g ∣ a := by
  obtain ⟨k, p⟩ := p
  induction p with
  | nil => exact Nat.dvd_zero g
  | cons hc _ ih => exact Nat.dvd_add (h _ hc) ih
theorem pay_mul {g : Nat} (hg : 1 ≤ g) {ls : List Nat} {k b : Nat} : Pay (ls.map (g * ·)) k (g * b) ↔ Pay ls k b := by
  constructor
  · intro p
    have key : ∀ {k a}, Pay (ls.map (g * ·)) k a → ∃ b, a = g * b ∧ Pay ls k b := fun p => by
      induction p with
      | nil => exact ⟨0, by rw [Nat.mul_zero], .nil⟩
      | cons hc _ ih =>
        obtain ⟨b, rfl, q⟩ := ih
        obtain ⟨l, hl, rfl⟩ := List.mem_map.mp hc
        exact ⟨l + b, (Nat.mul_add g l b).symm, .cons hl q⟩
    obtain ⟨b', e, q⟩ := key p
    rwa [Nat.eq_of_mul_eq_mul_left hg e]
  · intro p
    induction p with
    | nil => rw [Nat.mul_zero]; exact .nil
    | cons hc _ ih =>
      rw [Nat.mul_add]
      exact .cons (List.mem_map_of_mem hc) ih
theorem paid_mul {g : Nat} (hg : 1 ≤ g) {ls : List Nat} {b : Nat} : Paid (ls.map (g * ·)) (g * b) ↔ Paid ls b :=
  ⟨fun ⟨k, p⟩ => ⟨k, (pay_mul hg).mp p⟩, fun ⟨k, p⟩ => ⟨k, (pay_mul hg).mpr p⟩⟩
/-! ### sums over rests -/
def sumR (f : Nat → Nat) : Nat → Nat
  | 0 => 0
  | m + 1 => sumR f m + f m
theorem sumR_same {f g : Nat → Nat} : ∀ {m : Nat}, (∀ a, a < m → f a = g a) → sumR f m = sumR g m
  | 0, _ => rfl
  | m + 1, h => by rw [sumR, sumR, sumR_same (m := m) fun a ha => h a (by omega), h m (by omega)]
theorem sumR_upd {f g : Nat → Nat} {i : Nat} : ∀ {m : Nat}, i < m → (∀ a, a ≠ i → f a = g a) → sumR f m + g i = sumR g m + f i
  | 0, h, _ => by omega
  | m + 1, h, e => by
    rw [sumR, sumR]
    by_cases q : i = m
    · subst q
      rw [sumR_same (m := i) fun a ha => e a (by omega)]
      omega
    · have := sumR_upd (m := m) (by omega) e
      rw [e m fun z => q z.symm]
      omega
theorem sumR_le {f : Nat → Nat} {B : Nat} : ∀ {m : Nat}, (∀ a, a < m → f a ≤ B) → sumR f m ≤ m * B
  | 0, _ => by simp [sumR]
  | m + 1, h => by
    rw [sumR, Nat.succ_mul]
    have := sumR_le (m := m) fun a ha => h a (by omega)
    have := h m (by omega)
    omega
/-! ### the search -/
def upF (F : Nat → Option Nat) (l x : Nat) : Nat → Option Nat := fun a => if a = l then some x else F a
def cnt (F : Nat → Option Nat) (m : Nat) : Nat := sumR (fun r => if (F r).isSome = true then 1 else 0) m
def pot (F : Nat → Option Nat) (B m : Nat) : Nat := sumR (fun r => (F r).getD B) m
structure Mid (cs : List Nat) (m M : Nat) (F : Nat → Option Nat) (line : List Nat) (r v : Nat) (pre : List Nat) : Prop where
  z : F 0 = some 0
  paid : ∀ s w, F s = some w → Paid cs w
  rest : ∀ s w, F s = some w → w % m = s
  le : ∀ s w, F s = some w → w ≤ (cnt F m - 1) * M
  lin : ∀ s ∈ line, s < m ∧ F s ≠ none
  closed : ∀ s w, F s = some w → s ∈ line ∨ ∀ c, (c ∈ cs ∧ s ≠ r) ∨ (c ∈ pre ∧ s = r) → ∃ u, F ((s + c) % m) = some u ∧ u ≤ w + c
  cur : F r = some v
theorem cnt_pos {F : Nat → Option Nat} {m s w : Nat} (hs : s < m) (h : F s = some w) : 1 ≤ cnt F m := by
  have := sumR_upd (f := fun r => if (F r).isSome = true then 1 else 0) (g := fun r => if r = s then 0 else if (F r).isSome = true then 1 else 0) hs fun a ha => by simp [ha]
  simp only [if_true, h, Option.isSome_some] at this
  unfold cnt
  omega
theorem cnt_none {F : Nat → Option Nat} {m s : Nat} (hs : s < m) (h : F s = none) : cnt F m + 1 ≤ m := by
  have e := sumR_upd (f := fun r => if (F r).isSome = true then 1 else 0) (g := fun r => if r = s then 1 else if (F r).isSome = true then 1 else 0) hs fun a ha => by simp [ha]
  simp only [if_true, h, Option.isSome_none] at e
  have l := sumR_le (f := fun r => if r = s then 1 else if (F r).isSome = true then 1 else 0) (B := 1) (m := m) fun a _ => by
    show (if a = s then 1 else if (F a).isSome = true then 1 else 0) ≤ 1
    split
    · omega
    · split <;> omega
  unfold cnt
  simp at e
  omega
theorem cnt_le (F : Nat → Option Nat) (m : Nat) : cnt F m ≤ m := by
  have l := sumR_le (f := fun r => if (F r).isSome = true then 1 else 0) (B := 1) (m := m) fun a _ => by
    show (if (F a).isSome = true then 1 else 0) ≤ 1
    split <;> omega
  unfold cnt
  omega
theorem Mid.step {cs : List Nat} {m M : Nat} {F : Nat → Option Nat} {line : List Nat} {r v : Nat} {pre : List Nat} {c : Nat} (h : Mid cs m M F line r v pre) (hm : 1 ≤ m) (hc : c ∈ cs) (h1 : 1 ≤ c) (hM : c ≤ M) {B : Nat} (hmM : m * M < B) :
    (∃ u, F ((r + c) % m) = some u ∧ u ≤ v + c ∧ Mid cs m M F line r v (pre ++ [c])) ∨
    ((∀ u, F ((r + c) % m) = some u → v + c < u) ∧ Mid cs m M (upF F ((r + c) % m) (v + c)) (line ++ [(r + c) % m]) r v (pre ++ [c]) ∧ pot (upF F ((r + c) % m) (v + c)) B m + 1 ≤ pot F B m) := by
  have hl : (r + c) % m < m := Nat.mod_lt _ hm
  by_cases g : ∃ u, F ((r + c) % m) = some u ∧ u ≤ v + c
  · obtain ⟨u, g1, g2⟩ := g
    refine .inl ⟨u, g1, g2, h.z, h.paid, h.rest, h.le, h.lin, fun s w hs => ?_, h.cur⟩
    rcases h.closed s w hs with z | z
    · exact .inl z
    · refine .inr fun d hd => ?_
      rcases hd with ⟨d1, d2⟩ | ⟨d1, d2⟩
      · exact z d (.inl ⟨d1, d2⟩)
      · rcases List.mem_append.mp d1 with d1 | d1
        · exact z d (.inr ⟨d1, d2⟩)
        · have e : d = c := by simpa using d1
          subst e d2
          rw [h.cur] at hs
          cases hs
          exact ⟨u, g1, g2⟩
  · have gt : ∀ u, F ((r + c) % m) = some u → v + c < u := fun u hu => by
      by_cases q : v + c < u
      · exact q
      · exact absurd ⟨u, hu, by omega⟩ g
    refine .inr ⟨gt, ?_, ?_⟩
    · generalize hL : (r + c) % m = l at *
      have lr : l ≠ r := fun e => by
        have := gt v (by rw [e]; exact h.cur)
        omega
      have l0 : l ≠ 0 := fun e => by
        have := gt 0 (by rw [e]; exact h.z)
        omega
      have old : ∀ s, s ≠ l → upF F l (v + c) s = F s := fun s hs => if_neg hs
      have new : upF F l (v + c) l = some (v + c) := if_pos rfl
      have vr := h.rest r v h.cur
      have vle := h.le r v h.cur
      have rm : r < m := by rw [← vr]; exact Nat.mod_lt _ hm
      have c1 := cnt_pos rm h.cur
      have hcnt : cnt F m ≤ cnt (upF F l (v + c)) m ∧ v + c ≤ (cnt (upF F l (v + c)) m - 1) * M := by
        have e := sumR_upd (f := fun r => if ((upF F l (v + c)) r).isSome = true then 1 else 0) (g := fun r => if (F r).isSome = true then 1 else 0) hl fun a ha => by simp only [old a ha]
        simp only [new, Option.isSome_some, if_true] at e
        cases q : F l with
        | none =>
          rw [q] at e
          simp only [Option.isSome_none] at e
          have e' : cnt (upF F l (v + c)) m = cnt F m + 1 := by unfold cnt; simpa using e
          rw [e']
          refine ⟨by omega, ?_⟩
          have : cnt F m * M = (cnt F m - 1) * M + M := by
            obtain ⟨n, hn⟩ : ∃ n, cnt F m = n + 1 := ⟨cnt F m - 1, by omega⟩
            rw [hn, Nat.add_sub_cancel, Nat.succ_mul]
          rw [Nat.add_sub_cancel]
          omega
        | some u =>
          rw [q] at e
          simp only [Option.isSome_some, if_true] at e
          have e' : cnt (upF F l (v + c)) m = cnt F m := by unfold cnt; omega
          rw [e']
          have := gt u q
          have := h.le l u q
          exact ⟨by omega, by omega⟩
      have mon : ∀ w, w ≤ (cnt F m - 1) * M → w ≤ (cnt (upF F l (v + c)) m - 1) * M := fun w hw => Nat.le_trans hw (Nat.mul_le_mul_right M (by omega))
      refine ⟨by rw [old 0 (fun e => l0 e.symm)]; exact h.z, fun s w hs => ?_, fun s w hs => ?_, fun s w hs => ?_, fun s hs => ?_, fun s w hs => ?_, by rw [old r (fun e => lr e.symm)]; exact h.cur⟩
      · by_cases e : s = l
        · subst e
          rw [new] at hs
          cases hs
          exact (h.paid r v h.cur).add (.coin hc)
        · rw [old s e] at hs
          exact h.paid s w hs
      · by_cases e : s = l
        · subst e
          rw [new] at hs
          cases hs
          rw [Nat.add_mod, vr, ← hL, Nat.add_mod r c m, ← Nat.mod_eq_of_lt rm]
          simp
        · rw [old s e] at hs
          exact h.rest s w hs
      · by_cases e : s = l
        · subst e
          rw [new] at hs
          cases hs
          exact hcnt.2
        · rw [old s e] at hs
          exact mon w (h.le s w hs)
      · rcases List.mem_append.mp hs with hs | hs
        · obtain ⟨a1, a2⟩ := h.lin s hs
          refine ⟨a1, ?_⟩
          by_cases e : s = l
          · subst e; rw [new]; simp
          · rw [old s e]; exact a2
        · have e : s = l := by simpa using hs
          subst e
          exact ⟨hl, by rw [new]; simp⟩
      · by_cases e : s = l
        · subst e
          exact .inl (by simp)
        · rw [old s e] at hs
          rcases h.closed s w hs with z | z
          · exact .inl (by simp [z])
          · refine .inr fun d hd => ?_
            have key : ∀ u, F ((s + d) % m) = some u → u ≤ w + d → ∃ u, upF F l (v + c) ((s + d) % m) = some u ∧ u ≤ w + d := fun u a1 a2 => by
              by_cases e2 : (s + d) % m = l
              · rw [e2] at a1 ⊢
                have := gt u a1
                exact ⟨v + c, new, by omega⟩
              · rw [old _ e2]
                exact ⟨u, a1, a2⟩
            rcases hd with ⟨d1, d2⟩ | ⟨d1, d2⟩
            · obtain ⟨u, a1, a2⟩ := z d (.inl ⟨d1, d2⟩)
              exact key u a1 a2
            · rcases List.mem_append.mp d1 with d1 | d1
              · obtain ⟨u, a1, a2⟩ := z d (.inr ⟨d1, d2⟩)
                exact key u a1 a2
              · have e3 : d = c := by simpa using d1
                subst e3 d2
                rw [h.cur] at hs
                cases hs
                rw [hL]
                exact ⟨v + d, new, by omega⟩
    · have e := sumR_upd (f := fun s => ((upF F ((r + c) % m) (v + c)) s).getD B) (g := fun s => (F s).getD B) hl fun a ha => by
        show (if a = (r + c) % m then some (v + c) else F a).getD B = (F a).getD B
        rw [if_neg ha]
      have new : upF F ((r + c) % m) (v + c) ((r + c) % m) = some (v + c) := if_pos rfl
      simp only [new, Option.getD_some] at e
      unfold pot
      cases q : F ((r + c) % m) with
      | none =>
        rw [q] at e
        simp only [Option.getD_none] at e
        have vle := h.le r v h.cur
        have k1 := cnt_none hl q
        have k2 : (cnt F m - 1) * M + M ≤ m * M := by
          rw [← Nat.succ_mul]
          exact Nat.mul_le_mul_right M (by omega)
        omega
      | some u =>
        rw [q] at e
        simp only [Option.getD_some] at e
        have := gt u q
        omega
structure Head (cs : List Nat) (m M : Nat) (F : Nat → Option Nat) (line : List Nat) : Prop where
  z : F 0 = some 0
  paid : ∀ s w, F s = some w → Paid cs w
  rest : ∀ s w, F s = some w → w % m = s
  le : ∀ s w, F s = some w → w ≤ (cnt F m - 1) * M
  lin : ∀ s ∈ line, s < m ∧ F s ≠ none
  closed : ∀ s w, F s = some w → s ∈ line ∨ ∀ c ∈ cs, ∃ u, F ((s + c) % m) = some u ∧ u ≤ w + c
theorem Head.pop {cs : List Nat} {m M : Nat} {F : Nat → Option Nat} {line : List Nat} {r : Nat} (h : Head cs m M F (line ++ [r])) : ∃ v, r < m ∧ F r = some v ∧ Mid cs m M F line r v [] := by
  obtain ⟨h1, h2⟩ := h.lin r (by simp)
  cases q : F r with
  | none => exact absurd q h2
  | some v =>
    refine ⟨v, h1, rfl, h.z, h.paid, h.rest, h.le, fun s hs => h.lin s (by simp [hs]), fun s w hs => ?_, q⟩
    rcases h.closed s w hs with z | z
    · rcases List.mem_append.mp z with z | z
      · exact .inl z
      · have e : s = r := by simpa using z
        refine .inr fun c hc => ?_
        rcases hc with ⟨_, g⟩ | ⟨g, _⟩
        · exact absurd e g
        · cases g
    · refine .inr fun c hc => ?_
      rcases hc with ⟨g, _⟩ | ⟨g, _⟩
      · exact z c g
      · cases g
theorem Mid.done {cs : List Nat} {m M : Nat} {F : Nat → Option Nat} {line : List Nat} {r v : Nat} (h : Mid cs m M F line r v cs) : Head cs m M F line :=
  ⟨h.z, h.paid, h.rest, h.le, h.lin, fun s w hs => (h.closed s w hs).imp id fun g c hc => by
    by_cases e : s = r
    · exact g c (.inr ⟨hc, e⟩)
    · exact g c (.inl ⟨hc, e⟩)⟩
def F0 : Nat → Option Nat := fun a => if a = 0 then some 0 else none
theorem Head.start (cs : List Nat) {m M : Nat} (hm : 1 ≤ m) : Head cs m M F0 [0] := by
  have g : ∀ s w, F0 s = some w → s = 0 ∧ w = 0 := fun s w h => by
    unfold F0 at h
    split at h
    · rename_i e; cases h; exact ⟨e, rfl⟩
    · cases h
  refine ⟨rfl, fun s w h => ?_, fun s w h => ?_, fun s w h => ?_, fun s hs => ?_, fun s w h => ?_⟩
  · rw [(g s w h).2]; exact .zero cs
  · rw [(g s w h).1, (g s w h).2, Nat.zero_mod]
  · rw [(g s w h).2]; exact Nat.zero_le _
  · have e : s = 0 := by simpa using hs
    subst e
    exact ⟨hm, by simp [F0]⟩
  · rw [(g s w h).1]; exact .inl (by simp)
/-- what the search ends with -/
structure Sol (cs : List Nat) (m M : Nat) (F : Nat → Option Nat) : Prop where
  paid : ∀ r w, F r = some w → Paid cs w
  rest : ∀ r w, F r = some w → w % m = r
  all : ∀ r, r < m → ∃ w, F r = some w ∧ w ≤ (m - 1) * M
  least : ∀ a, Paid cs a → ∃ w, F (a % m) = some w ∧ w ≤ a
theorem Head.sol {cs : List Nat} {m M : Nat} {F : Nat → Option Nat} (h : Head cs m M F []) (hm : 1 ≤ m) (hg : gcdL cs = 1) : Sol cs m M F := by
  have key : ∀ {k a}, Pay cs k a → ∃ w, F (a % m) = some w ∧ w ≤ a := fun p => by
    induction p with
    | nil => exact ⟨0, by rw [Nat.zero_mod]; exact h.z, Nat.le_refl _⟩
    | @cons c k a hc p ih =>
      obtain ⟨w, h1, h2⟩ := ih
      rcases h.closed _ w h1 with z | z
      · cases z
      · obtain ⟨u, h3, h4⟩ := z c hc
        refine ⟨u, ?_, by omega⟩
        rw [← h3, Nat.mod_add_mod, Nat.add_comm]
  have least : ∀ a, Paid cs a → ∃ w, F (a % m) = some w ∧ w ≤ a := fun a ⟨k, p⟩ => key p
  refine ⟨h.paid, h.rest, fun r hr => ?_, least⟩
  obtain ⟨a, p, e⟩ := (gcdL_in (cs := cs) hm).mul r
  rw [hg, Nat.mul_one, Nat.mod_eq_of_lt hr] at e
  obtain ⟨w, h1, _⟩ := least a p
  rw [e] at h1
  refine ⟨w, h1, Nat.le_trans (h.le r w h1) (Nat.mul_le_mul_right M ?_)⟩
  have := cnt_le F m
  omega
/-- the last gap by what it is -/
def GapIs (cs : List Nat) : Option Nat → Prop
  | none => ∀ n, gcdL cs ∣ n → Paid cs n
  | some t => gcdL cs ∣ t ∧ ¬ Paid cs t ∧ ∀ n, t < n → gcdL cs ∣ n → Paid cs n
theorem Sol.gap {cs : List Nat} {m M x r : Nat} {F : Nat → Option Nat} (h : Sol cs m M F) (hm : m ∈ cs) (h1 : 1 ≤ m) (hg : gcdL cs = 1) (hr : r < m) (hx : F r = some x) (top : ∀ s w, s < m → F s = some w → w ≤ x) :
    GapIs cs (if m < x then some (x - m) else none) ∧ (m < x → x - m + m ≤ (m - 1) * M) := by
  have un : ∀ n, ¬ Paid cs n → n + m ≤ x := fun n np => by
    obtain ⟨w, e, _⟩ := h.all (n % m) (Nat.mod_lt _ h1)
    have le := top _ w (Nat.mod_lt _ h1) e
    have em := h.rest _ w e
    by_cases q : n < w
    · -- n and w are alike by m
      have d1 := Nat.div_add_mod n m
      have d2 := Nat.div_add_mod w m
      rw [em] at d2
      have : n / m < w / m := by
        rcases Nat.lt_or_ge (n / m) (w / m) with z | z
        · exact z
        · have := Nat.mul_le_mul_left m z; omega
      have := Nat.mul_le_mul_left m this
      rw [Nat.mul_succ] at this
      omega
    · have d1 := Nat.div_add_mod n m
      have d2 := Nat.div_add_mod w m
      rw [em] at d2
      have e3 : n = w + (n / m - w / m) * m := by
        have : w / m ≤ n / m := Nat.div_le_div_right (by omega)
        have e4 : (n / m - w / m) * m = m * (n / m) - m * (w / m) := by rw [Nat.mul_comm, Nat.mul_sub]
        have := Nat.mul_le_mul_left m this
        omega
      exact absurd (by rw [e3]; exact (h.paid _ w e).add ((Paid.coin hm).mul _)) np
  by_cases q : m < x
  · rw [if_pos q]
    refine ⟨⟨by rw [hg]; exact Nat.one_dvd _, fun p => ?_, fun n hn _ => ?_⟩, fun _ => ?_⟩
    · obtain ⟨w, e, le⟩ := h.least _ p
      have em := h.rest r x hx
      have e5 : (x - m) % m = r := by
        rw [← em]
        conv => rhs; rw [show x = x - m + m by omega]
        rw [Nat.add_mod_right]
      rw [e5, hx] at e
      cases e
      omega
    · apply Classical.byContradiction
      intro np
      have := un n np
      omega
    · obtain ⟨w, e, le⟩ := h.all r hr
      rw [hx] at e
      cases e
      omega
  · rw [if_neg q]
    refine ⟨fun n _ => ?_, fun z => absurd z q⟩
    apply Classical.byContradiction
    intro np
    have := un n np
    have e : n = 0 := by omega
    exact np (by rw [e]; exact .zero cs)
theorem GapIs.mul {g : Nat} (hg : 1 ≤ g) {ls : List Nat} {o : Option Nat} (h : GapIs ls o) : GapIs (ls.map (g * ·)) (o.map (g * ·)) := by
  cases o with
  | none =>
    intro n hn
    rw [gcdL_mul] at hn
    obtain ⟨b, rfl⟩ := Nat.dvd_trans (Nat.dvd_mul_right g _) hn
    exact (paid_mul hg).mpr (h b (Nat.dvd_of_mul_dvd_mul_left hg hn))
  | some t =>
    obtain ⟨h1, h2, h3⟩ := h
    refine ⟨by rw [gcdL_mul]; exact Nat.mul_dvd_mul_left g h1, fun p => h2 ((paid_mul hg).mp p), fun n hn hd => ?_⟩
    rw [gcdL_mul] at hd
    obtain ⟨b, rfl⟩ := Nat.dvd_trans (Nat.dvd_mul_right g _) hd
    exact (paid_mul hg).mpr (h3 b (Nat.lt_of_mul_lt_mul_left hn) (Nat.dvd_of_mul_dvd_mul_left hg hd))
theorem GapIs.uniq {cs : List Nat} {o p : Option Nat} (h : GapIs cs o) (g : GapIs cs p) : o = p := by
  cases o with
  | none =>
    cases p with
    | none => rfl
    | some t => exact absurd (h t g.1) g.2.1
  | some s =>
    cases p with
    | none => exact absurd (g s h.1) h.2.1
    | some t =>
      rcases Nat.lt_trichotomy s t with q | q | q
      · exact absurd (h.2.2 t q g.1) g.2.1
      · rw [q]
      · exact absurd (g.2.2 s q h.1) h.2.1
theorem gapIs_one {cs : List Nat} (h : 1 ∈ cs) : GapIs cs none := fun n _ => by
  have := (Paid.coin h).mul n
  rwa [Nat.mul_one] at this
theorem pay_two {p q k a : Nat} (h : Pay [p, q] k a) : ∃ x y, a = x * p + y * q := by
  induction h with
  | nil => exact ⟨0, 0, by simp⟩
  | @cons c k a hc _ ih =>
    obtain ⟨x, y, rfl⟩ := ih
    have hc : c = p ∨ c = q := by simpa using hc
    rcases hc with rfl | rfl
    · exact ⟨x + 1, y, by rw [Nat.succ_mul]; omega⟩
    · exact ⟨x, y + 1, by rw [Nat.succ_mul]; omega⟩
theorem paid_two {p q x y : Nat} : Paid [p, q] (x * p + y * q) := ((Paid.coin (by simp)).mul x).add ((Paid.coin (by simp)).mul y)
/-- two coins without a common divisor -/
theorem gap_two {p q : Nat} (hp : 1 < p) (hq : 1 < q) (hc : Nat.gcd p q = 1) : GapIs [p, q] (some (p * q - p - q)) := by
  have g1 : gcdL [p, q] = 1 := by
    unfold gcdL
    simp [hc]
  have big : p + q ≤ p * q := by
    obtain ⟨a, rfl⟩ : ∃ a, p = a + 2 := ⟨p - 2, by omega⟩
    obtain ⟨b, rfl⟩ : ∃ b, q = b + 2 := ⟨q - 2, by omega⟩
    have e : (a + 2) * (b + 2) = a * b + 2 * a + 2 * b + 4 := by
      rw [Nat.add_mul, Nat.mul_add, Nat.mul_add]; omega
    rw [e]
    have := Nat.zero_le (a * b)
    omega
  refine ⟨by rw [g1]; exact Nat.one_dvd _, fun ⟨k, h⟩ => ?_, fun n hn _ => ?_⟩
  · obtain ⟨x, y, e⟩ := pay_two h
    have e2 : (x + 1) * p + (y + 1) * q = p * q := by rw [Nat.succ_mul, Nat.succ_mul]; omega
    have d1 : q ∣ (x + 1) * p := by
      have : (x + 1) * p = p * q - (y + 1) * q := by omega
      rw [this]
      exact Nat.dvd_sub (Nat.dvd_mul_left q p) (Nat.dvd_mul_left q _)
    have d2 : p ∣ (y + 1) * q := by
      have : (y + 1) * q = p * q - (x + 1) * p := by omega
      rw [this]
      exact Nat.dvd_sub (Nat.dvd_mul_right p q) (Nat.dvd_mul_left p _)
    have d3 : q ∣ x + 1 := (Nat.Coprime.dvd_of_dvd_mul_right (show Nat.Coprime q p by rw [Nat.Coprime, Nat.gcd_comm]; exact hc) d1)
    have d4 : p ∣ y + 1 := (Nat.Coprime.dvd_of_dvd_mul_right (show Nat.Coprime p q from hc) d2)
    have l1 := Nat.mul_le_mul_right p (Nat.le_of_dvd (show 0 < x + 1 by omega) d3)
    have l2 := Nat.mul_le_mul_right q (Nat.le_of_dvd (show 0 < y + 1 by omega) d4)
    have e3 : q * p = p * q := Nat.mul_comm q p
    have : 0 < p * q := Nat.mul_pos (by omega) (by omega)
    omega
  · have i1 : InS [q] p 1 := by
      have i2 : InS [q] p q := ⟨q, .coin (by simp), rfl⟩
      have i3 : InS [q] p p := ⟨0, .zero _, by rw [Nat.mod_self, Nat.zero_mod]⟩
      have := InS.gcd (by omega) i3 i2
      rwa [hc] at this
    obtain ⟨a, pa, ea⟩ := i1.mul n
    rw [Nat.mul_one] at ea
    obtain ⟨y, rfl⟩ := pa.dvd (g := q) (by simp)
    have e1 : (y % p * q) % p = n % p := by
      rw [← ea, Nat.mod_mul_mod, Nat.mul_comm]
    have yl : y % p < p := Nat.mod_lt _ (by omega)
    generalize y % p = z at e1 yl
    have zq : z * q ≤ (p - 1) * q := Nat.mul_le_mul_right q (by omega)
    have e2 : (p - 1) * q = p * q - q := by rw [Nat.sub_mul, Nat.one_mul]
    -- z q and n differ by a multiple of p
    have le : z * q ≤ n := by
      apply Classical.byContradiction
      intro nle
      have d1 := Nat.div_add_mod n p
      have d2 := Nat.div_add_mod (z * q) p
      rw [e1] at d2
      have lt : n / p < z * q / p := by
        rcases Nat.lt_or_ge (n / p) (z * q / p) with h | h
        · exact h
        · have := Nat.mul_le_mul_left p h; omega
      have := Nat.mul_le_mul_left p lt
      rw [Nat.mul_succ] at this
      omega
    have d1 := Nat.div_add_mod n p
    have d2 := Nat.div_add_mod (z * q) p
    rw [e1] at d2
    have e3 : n = (n / p - z * q / p) * p + z * q := by
      have h1 : z * q / p ≤ n / p := Nat.div_le_div_right le
      have h2 : (n / p - z * q / p) * p = p * (n / p) - p * (z * q / p) := by rw [Nat.mul_comm, Nat.mul_sub]
      have := Nat.mul_le_mul_left p h1
      omega
    rw [e3]
    exact paid_two
end Pm
/-! greedy coins -/
namespace Pm
def gR : List Nat → Nat → Nat
  | [], _ => 0
  | c :: r, a => a / c + gR r (a % c)
def gre (cs : List Nat) (a : Nat) : Nat := gR cs.reverse a
theorem gre_ge {r : List Nat} {c a : Nat} (hc : 1 ≤ c) (h : c ≤ a) : gre (r ++ [c]) a = 1 + gre (r ++ [c]) (a - c) := by
  unfold gre
  rw [List.reverse_append]
  show a / c + gR r.reverse (a % c) = 1 + ((a - c) / c + gR r.reverse ((a - c) % c))
  rw [Nat.div_eq_sub_div hc h, Nat.mod_eq_sub_mod h]
  omega
theorem gre_lt {r : List Nat} {c a : Nat} (h : a < c) : gre (r ++ [c]) a = gre r a := by
  unfold gre
  rw [List.reverse_append]
  show a / c + gR r.reverse (a % c) = _
  rw [Nat.div_eq_of_lt h, Nat.mod_eq_of_lt h, Nat.zero_add]
theorem gR_zero : ∀ rs : List Nat, gR rs 0 = 0
  | [] => rfl
  | c :: r => by rw [gR, Nat.zero_div, Nat.zero_mod, gR_zero r]
theorem gR_pay : ∀ (r : List Nat) (a : Nat), Pay (r ++ [1]) (gR (r ++ [1]) a) a
  | [], a => by
    show Pay [1] (a / 1 + 0) a
    have := Pay.rep (cs := [1]) (c := 1) (by simp) a
    rw [Nat.mul_one] at this
    rw [Nat.div_one]
    exact this
  | c :: r, a => by
    have h := (Pay.rep (cs := c :: r ++ [1]) (c := c) (by simp) (a / c)).add ((gR_pay r (a % c)).mono (ds := c :: r ++ [1]) fun d hd => by
      rw [List.cons_append]
      exact List.mem_cons_of_mem _ hd)
    have e : a / c * c + a % c = a := by rw [Nat.mul_comm]; exact Nat.div_add_mod a c
    rw [e] at h
    exact h
/-- with 1 first -/
theorem gre_pay (r : List Nat) (a : Nat) : Pay (1 :: r) (gre (1 :: r) a) a := by
  have h := gR_pay r.reverse a
  unfold gre
  rw [List.reverse_cons]
  exact h.mono fun d hd => by
    rcases List.mem_append.mp hd with hd | hd
    · exact List.mem_cons_of_mem _ (List.mem_reverse.mp hd)
    · have e : d = 1 := by simpa using hd
      rw [e]; exact List.mem_cons_self
/-- the greatest first way has too many -/
def Fault (cs : List Nat) (a : Nat) : Prop := ∃ k, Pay cs k a ∧ k < gre cs a
theorem few_of_no {r : List Nat} (h1 : ∀ c ∈ (1 :: r), 1 ≤ c) {a : Nat} (h : ¬ Fault (1 :: r) a) : few (1 :: r) a = some (gre (1 :: r) a) :=
  (few_some h1).mpr ⟨gre_pay r a, fun j p => by
    rcases Nat.lt_or_ge j (gre (1 :: r) a) with q | q
    · exact absurd ⟨j, p, q⟩ h
    · exact q⟩
theorem fault_few {cs : List Nat} (h1 : ∀ c ∈ cs, 1 ≤ c) {a k : Nat} (h : few cs a = some k) : Fault cs a ↔ k < gre cs a := by
  obtain ⟨p, g⟩ := (few_some h1).mp h
  exact ⟨fun ⟨j, q, l⟩ => by have := g j q; omega, fun l => ⟨k, p, l⟩⟩
def Least (cs : List Nat) (t : Nat) : Prop := Fault cs t ∧ ∀ b, b < t → ¬ Fault cs b
theorem least_of {cs : List Nat} : ∀ {a : Nat}, Fault cs a → ∃ t, t ≤ a ∧ Least cs t := fun {a} => by
  induction a using Nat.strongRecOn with
  | ind a ih =>
    intro h
    by_cases q : ∃ b, b < a ∧ Fault cs b
    · obtain ⟨b, l, hb⟩ := q
      obtain ⟨t, l2, ht⟩ := ih b l hb
      exact ⟨t, by omega, ht⟩
    · exact ⟨a, Nat.le_refl _, h, fun b l hb => q ⟨b, l, hb⟩⟩
/-- a least fault is paid with as few coins without the greatest one -/
theorem Least.out {r : List Nat} {c t : Nat} (h1 : ∀ d ∈ (1 :: r) ++ [c], 1 ≤ d) (h : Least ((1 :: r) ++ [c]) t) : ∃ k, Pay (1 :: r) k t ∧ k < gre ((1 :: r) ++ [c]) t := by
  obtain ⟨⟨k, p, l⟩, m⟩ := h
  rcases p.split with q | ⟨j, b, rfl, rfl, q⟩
  · exact ⟨k, q, l⟩
  · have hc := h1 c (by simp)
    have nf := m b (by omega)
    have e := few_of_no (r := r ++ [c]) h1 nf
    have := ((few_some h1).mp e).2 j q
    rw [gre_ge hc (Nat.le_add_right c b), Nat.add_sub_cancel_left] at l
    have : gre (1 :: (r ++ [c])) b ≤ j := this
    have l : j + 1 < 1 + gre (1 :: (r ++ [c])) b := l
    omega
/-- and lies below the two greatest ones together -/
theorem Least.below {r : List Nat} {c e t : Nat} (h1 : ∀ d ∈ (1 :: r) ++ [c], 1 ≤ d) (h : Least ((1 :: r) ++ [c]) t) (he : ∀ d ∈ 1 :: r, d ≤ e) : t < c + e := by
  obtain ⟨k, p, l⟩ := h.out h1
  apply Classical.byContradiction
  intro nlt
  have hc := h1 c (by simp)
  have h1' : ∀ d ∈ (1 :: (r ++ [c])), 1 ≤ d := h1
  rcases p.inv with ⟨_, z⟩ | ⟨d, j, b, hd, rfl, rfl, p'⟩
  · have := he 1 List.mem_cons_self
    omega
  · have hd1 := h1 d (List.mem_append.mpr (.inl hd))
    have hde := he d hd
    have up : ∀ {k a}, Pay (1 :: r) k a → Pay (1 :: (r ++ [c])) k a := fun p => p.mono fun x hx => by
      have : x ∈ (1 :: r) ++ [c] := List.mem_append.mpr (.inl hx)
      exact this
    -- b is at least c, and greedy pays it best
    have nb := few_of_no (r := r ++ [c]) h1' (h.2 b (by omega))
    have n1 := ((few_some h1').mp nb).2 j (up p')
    have g1 : gre ((1 :: r) ++ [c]) b = 1 + gre ((1 :: r) ++ [c]) (b - c) := gre_ge hc (by omega)
    have g2 : gre ((1 :: r) ++ [c]) (d + b) = 1 + gre ((1 :: r) ++ [c]) (d + b - c) := gre_ge hc (by omega)
    have nc := few_of_no (r := r ++ [c]) h1' (h.2 (d + b - c) (by omega))
    have pd : Pay (1 :: (r ++ [c])) (gre (1 :: (r ++ [c])) (b - c) + 1) (d + (b - c)) := .cons (by
      have : d ∈ (1 :: r) ++ [c] := List.mem_append.mpr (.inl hd)
      exact this) (gre_pay (r ++ [c]) (b - c))
    rw [show d + (b - c) = d + b - c by omega] at pd
    have n2 := ((few_some h1').mp nc).2 _ pd
    have g1 : gre (1 :: (r ++ [c])) b = 1 + gre (1 :: (r ++ [c])) (b - c) := g1
    have g2 : gre (1 :: (r ++ [c])) (d + b) = 1 + gre (1 :: (r ++ [c])) (d + b - c) := g2
    have l : j + 1 < gre (1 :: (r ++ [c])) (d + b) := l
    omega
theorem gre_one (a : Nat) : gre [1] a = a := by
  show a / 1 + 0 = a
  rw [Nat.div_one]; rfl
theorem gre_two (b a : Nat) : gre [1, b] a = a / b + a % b := by
  show a / b + (a % b / 1 + 0) = _
  rw [Nat.div_one]; rfl
theorem gre_three (b c a : Nat) : gre [1, b, c] a = a / c + (a % c / b + a % c % b) := by
  show a / c + (a % c / b + (a % c % b / 1 + 0)) = _
  rw [Nat.div_one]; rfl
theorem no_one (a : Nat) : ¬ Fault [1] a := fun ⟨k, p, l⟩ => by
  rw [gre_one] at l
  have := p.le (m := 1) (by simp)
  omega
theorem no_two {b : Nat} (hb : 1 ≤ b) (a : Nat) : ¬ Fault [1, b] a := fun h => by
  obtain ⟨t, _, ht⟩ := least_of h
  have h1 : ∀ d ∈ (1 :: []) ++ [b], 1 ≤ d := by simp; omega
  obtain ⟨k, p, l⟩ := Least.out (r := []) (c := b) h1 ht
  have l : k < gre [1, b] t := l
  rw [gre_two] at l
  have p1 := p.le (m := 1) (by simp)
  have := Nat.div_add_mod t b
  have : t / b * 1 ≤ t / b * b := Nat.mul_le_mul_left _ hb
  have e : t / b * b = b * (t / b) := Nat.mul_comm _ _
  omega
theorem no_chain {b c : Nat} (hb : 1 ≤ b) (hc : 1 ≤ c) (d : b ∣ c) (a : Nat) : ¬ Fault [1, b, c] a := fun h => by
  obtain ⟨t, _, ht⟩ := least_of h
  have h1 : ∀ d ∈ (1 :: [b]) ++ [c], 1 ≤ d := by simp; omega
  obtain ⟨k, p, l⟩ := Least.out (r := [b]) (c := c) h1 ht
  have l : k < gre [1, b, c] t := l
  rw [gre_three] at l
  have h2 : ∀ d ∈ (1 :: [b]), 1 ≤ d := by simp; omega
  have e := few_of_no (r := [b]) h2 (no_two hb t)
  have n := ((few_some h2).mp e).2 k p
  rw [gre_two] at n
  obtain ⟨q, rfl⟩ := d
  have q1 : 1 ≤ q := by
    rcases Nat.eq_zero_or_pos q with z | z
    · subst z; simp at hc
    · exact z
  have e1 : t % (b * q) % b = t % b := Nat.mod_mul_right_mod t b q
  have e2 : t % (b * q) / b = t / b % q := Nat.mod_mul_right_div_self t b q
  have e3 : t / (b * q) = t / b / q := (Nat.div_div_eq_div_mul t b q).symm
  rw [e1, e2, e3] at l
  have f1 := Nat.div_add_mod (t / b) q
  have f2 : (t / b / q) * 1 ≤ (t / b / q) * q := Nat.mul_le_mul_left _ q1
  have f3 : t / b / q * q = q * (t / b / q) := Nat.mul_comm _ _
  omega
/-- the first fault by what it is -/
def FaultIs (cs : List Nat) : Option Nat → Prop
  | none => ∀ a, ¬ Fault cs a
  | some t => Least cs t
theorem FaultIs.uniq {cs : List Nat} {o p : Option Nat} (h : FaultIs cs o) (g : FaultIs cs p) : o = p := by
  cases o with
  | none =>
    cases p with
    | none => rfl
    | some t => exact absurd g.1 (h t)
  | some s =>
    cases p with
    | none => exact absurd h.1 (g s)
    | some t =>
      rcases Nat.lt_trichotomy s t with q | q | q
      · exact absurd h.1 (g.2 s q)
      · rw [q]
      · exact absurd g.1 (h.2 t q)
/-- looked for up to a bound beyond which none is first -/
theorem faultIs_of {cs : List Nat} {N : Nat} (hb : ∀ t, Least cs t → t < N) {o : Option Nat} (h : match o with | none => ∀ a, a < N → ¬ Fault cs a | some t => Fault cs t ∧ ∀ b, b < t → ¬ Fault cs b) : FaultIs cs o := by
  cases o with
  | none =>
    intro a f
    obtain ⟨t, _, ht⟩ := least_of f
    exact h t (hb t ht) ht.1
  | some t => exact h
end Pm
/-! rows of numbers as data -/
namespace Pu
open PySem PySem.Spec PyProof.Rows L2
abbrev nI (n : Nat) : D := .int (n : Int)
abbrev tI (ns : List Nat) : D := .tup (ns.map nI)
def oI : Option Nat → D
  | none => .non
  | some n => .int (n : Int)
@[simp] theorem oI_n : oI none = .non := Eq.trans rfl rfl
@[simp] theorem oI_s (n : Nat) : oI (some n) = .int (n : Int) := Eq.trans rfl rfl
theorem map_nI (ns : List Nat) : ns.map nI = (ns.map fun n : Nat => (n : Int)).map D.int := by
  rw [List.map_map]; rfl
theorem castInj : ∀ {xs ys : List Nat}, (xs.map fun n : Nat => (n : Int)) = (ys.map fun n : Nat => (n : Int)) ↔ xs = ys
  | [], [] => by simp
  | [], y :: ys => by simp
  | x :: xs, [] => by simp
  | x :: xs, y :: ys => by
    rw [List.map_cons, List.map_cons, List.cons.injEq, castInj (xs := xs) (ys := ys), List.cons.injEq]
    constructor
    · rintro ⟨a, b⟩; exact ⟨by omega, b⟩
    · rintro ⟨a, b⟩; exact ⟨by omega, b⟩
theorem eq_tI (xs ys : List Nat) : D.eq? (tI xs) (tI ys) = some (decide (xs = ys)) := by
  show D.eq? (.tup (xs.map nI)) (.tup (ys.map nI)) = _
  rw [map_nI, map_nI, eq_tups]
  congr 1
  exact decide_eq_decide.mpr castInj
theorem eq_lI (xs ys : List Nat) : D.eq? (.lst (xs.map nI)) (.lst (ys.map nI)) = some (decide (xs = ys)) := by
  rw [map_nI, map_nI, eq_lsts]
  congr 1
  exact decide_eq_decide.mpr castInj
@[simp] theorem c_is_o (o : Option Nat) : C2.is.den (oI o) .non = some (decide (o = none)) := by cases o <;> simp [oI, C2.den]
@[simp] theorem c_isn_o (o : Option Nat) : C2.isn.den (oI o) .non = some (decide (o ≠ none)) := by cases o <;> simp [oI, C2.den]
theorem q_oo (a b : Option Nat) : D.eq? (oI a) (oI b) = some (decide (a = b)) := by
  cases a with
  | none => cases b <;> simp [oI]
  | some x =>
    cases b with
    | none => simp [oI]
    | some y =>
      rw [oI_s, oI_s, q_ii]
      congr 1
      refine decide_eq_decide.mpr ?_
      rw [Option.some.injEq]
      exact Int.ofNat_inj
theorem at_map {α : Type} {f : α → D} {xs : List α} {i : Nat} (h : i < xs.length) : atI (xs.map f) (i : Int) = some (f xs[i]) := by
  rw [atI_nt (by rw [List.length_map]; exact h)]
  simp
theorem at_mapI {α : Type} {f : α → D} {xs : List α} {j : Int} {i : Nat} (e : j = (i : Int)) (h : i < xs.length) : atI (xs.map f) j = some (f xs[i]) := by
  rw [e]; exact at_map h
theorem at_m1 {α : Type} {f : α → D} {xs : List α} {x : α} (h : xs.getLast? = some x) : atI (xs.map f) (-1) = some (f x) := by
  obtain ⟨ys, rfl⟩ : ∃ ys, xs = ys ++ [x] := by
    rcases List.eq_nil_or_concat xs with rfl | ⟨ts, w, rfl⟩
    · cases h
    · rw [List.concat_eq_append, List.getLast?_append] at h
      simp at h
      exact ⟨ts, by rw [List.concat_eq_append, h]⟩
  rw [List.map_append]
  exact atI_last _ _
theorem allI_nI (ns : List Nat) : allI (ns.map nI) = some (ns.map fun n : Nat => (n : Int)) := by
  rw [map_nI, allI_map]
theorem minI_nat : ∀ (n : Nat) (ns : List Nat), ∃ m : Nat, minI ((n :: ns).map fun n : Nat => (n : Int)) = (m : Int) ∧ Pm.minO ((n :: ns).map some) = some m
  | n, [] => ⟨n, rfl, rfl⟩
  | n, k :: ns => by
    obtain ⟨m, h1, h2⟩ := minI_nat k ns
    refine ⟨min n m, ?_, ?_⟩
    · rw [List.map_cons, List.map_cons]
      show min (n : Int) (minI ((k :: ns).map fun n : Nat => (n : Int))) = _
      rw [h1]
      omega
    · rw [List.map_cons, Pm.minO, h2]
/-- min(.., default=None) -/
theorem mind_nI (ns : List Nat) : mindS (.lst (ns.map nI)) .non = mret (.im (oI (Pm.minO (ns.map some)))) := by
  show (match allI (ns.map nI) with
    | some [] => mret (Rv.im D.non)
    | some ns => mret (.im (.int (minI ns)))
    | none => mbad) = _
  rw [allI_nI]
  cases ns with
  | nil => rfl
  | cons n ns =>
    obtain ⟨m, h1, h2⟩ := minI_nat n ns
    rw [h2]
    show mret (Rv.im (.int (minI ((n :: ns).map fun n : Nat => (n : Int))))) = _
    rw [h1]
    rfl
theorem f_min_nI (n : Nat) (ns : List Nat) : ∃ m, Pm.minO ((n :: ns).map some) = some m ∧ Bf.min1.den [.lst ((n :: ns).map nI)] = some (.im (.int (m : Int))) := by
  obtain ⟨m, h1, h2⟩ := minI_nat n ns
  refine ⟨m, h2, ?_⟩
  show dMin1 [.lst ((n :: ns).map nI)] = _
  unfold dMin1
  simp only [allI_nI]
  rw [List.map_cons] at h1 ⊢
  simp only [h1]
theorem ok62_nat {n : Nat} (h : n ≤ 1000000000) : ok62 (n : Int) = true := by
  rw [ok62_iff]
  omega
theorem r2S_nat {i j : Nat} (h1 : i ≤ 1000000000) (h2 : j ≤ 1000000000) : r2S (.int (i : Int)) (.int (j : Int)) = mret (rngL (i : Int) (j - i)) := by
  rw [r2S_ok (ok62_nat h1) (ok62_nat h2)]
  congr 2
  omega
theorem r1S_nat {j : Nat} (h : j ≤ 1000000000) : r1S (.int (j : Int)) = mret (rngL 0 j) := by
  rw [r1S_ok (ok62_nat h)]
  rfl
theorem rep_one (x : D) {n : Nat} (h : n ≤ 1000000) : B2.mul.den (.lst [x]) (.int (n : Int)) = some (.nw (List.replicate n x)) := by
  have big : 1000000 ≤ sizeLine := by decide
  rw [b_rep, if_pos ⟨by omega, by omega, by rw [Int.toNat_natCast, List.length_singleton]; omega⟩]
  have e : ∀ n : Nat, (List.replicate n [x]).flatten = List.replicate n x := fun n => by
    induction n with
    | zero => rfl
    | succ n ih => rw [List.replicate_succ, List.flatten_cons, ih, List.replicate_succ]; rfl
  rw [Int.toNat_natCast, e]
theorem cat_le {xs ys : List D} (h1 : xs.length ≤ 1000000) (h2 : ys.length ≤ 1000000) : B2.add.den (.lst xs) (.lst ys) = some (.nw (xs ++ ys)) := by
  have big : 2000000 ≤ sizeLine := by decide
  rw [b_cat, if_pos (by omega)]
theorem set_rng {α : Type} (f : Nat → α) (N i : Nat) (x : α) : ((List.range N).map f).set i x = (List.range N).map fun a => if a = i then x else f a := by
  apply List.ext_getElem?
  intro j
  rw [List.getElem?_set]
  by_cases e : i = j
  · subst e
    by_cases h : i < N
    · simp [h]
    · simp [h]
  · simp only [e, if_false, List.getElem?_map]
    by_cases h : j < N
    · rw [List.getElem?_range h]
      simp [show ¬ j = i from fun z => e z.symm]
    · rw [List.getElem?_eq_none (by simpa using h)]
      rfl
theorem at_rng {f : Nat → D} {N : Nat} {j : Int} {i : Nat} (e : j = (i : Int)) (h : i < N) : atI ((List.range N).map f) j = some (f i) := by
  rw [at_mapI e (by rw [List.length_range]; exact h)]
  simp
theorem ix_rng {f : Nat → D} {N : Nat} {j : Int} {i : Nat} (e : j = (i : Int)) (h : i < N) : ixN ((List.range N).map f).length j = some i := by
  rw [e, List.length_map, List.length_range, ixN_nat h]
theorem get_rng {f : Nat → D} {N i : Nat} (h : i < N) : ((List.range N).map f)[i]? = some (f i) := by
  rw [List.getElem?_map, List.getElem?_range h]
  rfl
theorem rng_congr {α : Type} {f g : Nat → α} {N : Nat} (h : ∀ a, a < N → f a = g a) : (List.range N).map f = (List.range N).map g := List.map_congr_left fun a ha => h a (by simpa using ha)
theorem maxI_nat : ∀ (n : Nat) (ns : List Nat), ∃ m, m ∈ n :: ns ∧ (∀ y ∈ n :: ns, y ≤ m) ∧ maxI ((n :: ns).map fun n : Nat => (n : Int)) = (m : Int)
  | n, [] => ⟨n, by simp, by simp, rfl⟩
  | n, k :: ns => by
    obtain ⟨m, h1, h2, h3⟩ := maxI_nat k ns
    refine ⟨max n m, ?_, fun y hy => ?_, ?_⟩
    · by_cases h : n ≤ m
      · rw [Nat.max_eq_right h]; exact List.mem_cons_of_mem _ h1
      · rw [Nat.max_eq_left (by omega)]; exact List.mem_cons_self
    · rcases List.mem_cons.mp hy with rfl | hy
      · omega
      · have := h2 y hy; omega
    · rw [List.map_cons, List.map_cons]
      show max (n : Int) (maxI ((k :: ns).map fun n : Nat => (n : Int))) = _
      rw [h3]
      omega
theorem f_max_nI (xs : List Nat) (h : xs ≠ []) : ∃ m, m ∈ xs ∧ (∀ y ∈ xs, y ≤ m) ∧ Bf.max1.den [.lst (xs.map nI)] = some (.im (.int (m : Int))) := by
  cases xs with
  | nil => exact absurd rfl h
  | cons n ns =>
    obtain ⟨m, h1, h2, h3⟩ := maxI_nat n ns
    refine ⟨m, h1, h2, ?_⟩
    show dMax1 [.lst ((n :: ns).map nI)] = _
    unfold dMax1
    simp only [allI_nI]
    rw [List.map_cons] at h3 ⊢
    simp only [h3]
def insN (x : Nat) : List Nat → List Nat
  | [] => [x]
  | y :: r => if x ≤ y then x :: y :: r else y :: insN x r
def sortN : List Nat → List Nat
  | [] => []
  | x :: r => insN x (sortN r)
theorem insI_nat (x : Nat) : ∀ r : List Nat, insI (x : Int) (r.map fun n : Nat => (n : Int)) = (insN x r).map fun n : Nat => (n : Int)
  | [] => rfl
  | y :: r => by
    rw [List.map_cons, insI, insN]
    by_cases h : x ≤ y
    · rw [if_pos (by omega), if_pos h]; rfl
    · rw [if_neg (by omega), if_neg h, insI_nat x r]; rfl
theorem sortI_nat : ∀ r : List Nat, sortI (r.map fun n : Nat => (n : Int)) = (sortN r).map fun n : Nat => (n : Int)
  | [] => rfl
  | y :: r => by rw [List.map_cons, sortI, sortI_nat r, insI_nat, sortN]
theorem insN_mem {x y : Nat} : ∀ {r : List Nat}, y ∈ insN x r ↔ y = x ∨ y ∈ r
  | [] => by simp [insN]
  | z :: r => by
    rw [insN]
    split
    · simp
    · simp only [List.mem_cons, insN_mem (r := r)]
      constructor <;> (intro h; rcases h with h | h | h <;> simp [h])
theorem sortN_mem {y : Nat} : ∀ {r : List Nat}, y ∈ sortN r ↔ y ∈ r
  | [] => by simp [sortN]
  | z :: r => by simp [sortN, insN_mem, sortN_mem (r := r)]
theorem insN_len (x : Nat) : ∀ r : List Nat, (insN x r).length = r.length + 1
  | [] => rfl
  | z :: r => by
    rw [insN]
    split
    · rfl
    · rw [List.length_cons, insN_len x r]; rfl
theorem sortN_len : ∀ r : List Nat, (sortN r).length = r.length
  | [] => rfl
  | z :: r => by rw [sortN, insN_len, sortN_len r]; rfl
theorem insN_up {x : Nat} : ∀ {r : List Nat}, r.Pairwise (· < ·) → x ∉ r → (insN x r).Pairwise (· < ·)
  | [], _, _ => by simp [insN]
  | z :: r, h, n => by
    rw [List.pairwise_cons] at h
    simp only [List.mem_cons, not_or] at n
    rw [insN]
    split
    · rename_i le
      refine List.pairwise_cons.mpr ⟨fun a ha => ?_, List.pairwise_cons.mpr h⟩
      rcases List.mem_cons.mp ha with rfl | ha
      · omega
      · have := h.1 a ha; omega
    · rename_i le
      refine List.pairwise_cons.mpr ⟨fun a ha => ?_, insN_up h.2 n.2⟩
      rcases insN_mem.mp ha with rfl | ha
      · omega
      · exact h.1 a ha
theorem sortN_up : ∀ {r : List Nat}, r.Nodup → (sortN r).Pairwise (· < ·)
  | [], _ => .nil
  | z :: r, h => by
    rw [List.nodup_cons] at h
    exact insN_up (sortN_up h.2) (fun m => h.1 (sortN_mem.mp m))
theorem f_sorted_nI (ns : List Nat) : Bf.sorted.den [.lst (ns.map nI)] = some (.nw ((sortN ns).map nI)) := by
  show dSorted [.lst (ns.map nI)] = _
  unfold dSorted
  simp only [allI_nI, Option.map_some, sortI_nat]
  rw [map_nI]
theorem nin_nI (x : Nat) (ns : List Nat) : C2.nin.den (nI x) (.lst (ns.map nI)) = some (decide (x ∉ ns)) := by
  have h1 : (ns.map nI).all D.flat = true := by simp [D.flat]
  have h2 : ((ns.map nI).any fun y => y.feq (nI x)) = decide (x ∈ ns) := by
    rw [List.any_map, Bool.eq_iff_iff, List.any_eq_true, decide_eq_true_eq]
    constructor
    · rintro ⟨y, hy, e⟩
      have e : ((y : Int) == (x : Int)) = true := e
      have : y = x := by have := eq_of_beq e; omega
      rwa [← this]
    · intro h
      refine ⟨x, h, ?_⟩
      show ((x : Int) == (x : Int)) = true
      simp
  show (if (nI x).flat = true ∧ (ns.map nI).all D.flat = true then some (!((ns.map nI).any fun y => y.feq (nI x))) else none) = _
  rw [if_pos ⟨rfl, h1⟩, h2]
  simp
theorem rngC_nat (g q : Nat) : rngC 0 (g : Int) (q + 1) = ((List.range (q + 1)).map (· * g)).map nI := by
  unfold rngC
  rw [List.map_map]
  refine List.map_congr_left fun i _ => ?_
  show D.int _ = D.int _
  congr 1
  rw [Int.zero_add]
  exact (Int.natCast_mul i g).symm
theorem r3S_nat {n g : Nat} (h1 : 1 ≤ g) (h2 : g ≤ 1000000000) (h3 : n ≤ 1000000000) : r3S (.int 0) (.int ((n : Int) + 1)) (.int (g : Int)) = mret (((List.range (n / g + 1)).map (· * g)).map nI) := by
  have hq : Builtin.Range.rangeSize 0 ((n : Int) + 1) (g : Int) = ((n / g + 1 : Nat) : Int) := by
    unfold Builtin.Range.rangeSize
    rw [if_pos (by omega), if_pos (by omega), show (n : Int) + 1 - 0 - 1 = (n : Int) by omega, Int.natCast_add, Int.natCast_ediv]
    rfl
  have hd : n / g ≤ n := Nat.div_le_self n g
  generalize n / g = q at hq hd ⊢
  have fit : ∀ i : Int, 0 ≤ i → i ≤ 4000000000 → Builtin.Range.rangeFitsLong i = true := fun i a b => by
    unfold Builtin.Range.rangeFitsLong
    simp
    omega
  have hs : Builtin.Range.small 0 ((n : Int) + 1) (g : Int) = true := by
    unfold Builtin.Range.small
    rw [hq, fit 0 (by omega) (by omega), fit _ (by omega) (by omega), fit (g : Int) (by omega) (by omega), fit _ (by omega) (by omega), if_pos (by omega), fit _ (by omega) (by omega)]
    simp
  have h4 := r3S_ok (i := 0) (j := (n : Int) + 1) (k := (g : Int)) ⟨by omega, by omega, hs⟩
  rw [hq, Int.toNat_natCast] at h4
  rw [← rngC_nat]
  exact h4
def insSN (x : Nat) : List Nat → List Nat
  | [] => [x]
  | y :: r => if x < y then x :: y :: r else if x = y then y :: r else y :: insSN x r
def setN : List Nat → List Nat
  | [] => []
  | x :: r => insSN x (setN r)
theorem insSI_nat (x : Nat) : ∀ r : List Nat, insSI (x : Int) (r.map fun n : Nat => (n : Int)) = (insSN x r).map fun n : Nat => (n : Int)
  | [] => rfl
  | y :: r => by
    rw [List.map_cons, insSI, insSN]
    by_cases h : x < y
    · rw [if_pos (by omega), if_pos h]; rfl
    · rw [if_neg (by omega), if_neg h]
      by_cases h2 : x = y
      · rw [if_pos (by omega), if_pos h2]; rfl
      · rw [if_neg (by omega), if_neg h2, insSI_nat x r]; rfl
theorem setI_nat : ∀ r : List Nat, setI (r.map fun n : Nat => (n : Int)) = (setN r).map fun n : Nat => (n : Int)
  | [] => rfl
  | y :: r => by rw [List.map_cons, setI, setI_nat r, insSI_nat, setN]
theorem insSN_mem {x y : Nat} : ∀ {r : List Nat}, y ∈ insSN x r ↔ y = x ∨ y ∈ r
  | [] => by simp [insSN]
  | z :: r => by
    rw [insSN]
    split
    · simp
    · split
      · rename_i e; subst e; simp
      · simp only [List.mem_cons, insSN_mem (r := r)]
        constructor <;> (intro h; rcases h with h | h | h <;> simp [h])
theorem setN_mem {y : Nat} : ∀ {r : List Nat}, y ∈ setN r ↔ y ∈ r
  | [] => by simp [setN]
  | z :: r => by simp [setN, insSN_mem, setN_mem (r := r)]
theorem insSN_len (x : Nat) : ∀ r : List Nat, (insSN x r).length ≤ r.length + 1
  | [] => Nat.le_refl _
  | z :: r => by
    rw [insSN]
    split
    · exact Nat.le_refl _
    · split
      · exact Nat.le_succ _
      · rw [List.length_cons, List.length_cons]
        have := insSN_len x r
        omega
theorem setN_len : ∀ r : List Nat, (setN r).length ≤ r.length
  | [] => Nat.le_refl _
  | z :: r => by
    rw [setN, List.length_cons]
    have := insSN_len z (setN r)
    have := setN_len r
    omega
theorem insSN_up {x : Nat} : ∀ {r : List Nat}, r.Pairwise (· < ·) → (insSN x r).Pairwise (· < ·)
  | [], _ => by simp [insSN]
  | z :: r, h => by
    have h0 := h
    rw [List.pairwise_cons] at h
    rw [insSN]
    split
    · rename_i lt
      refine List.pairwise_cons.mpr ⟨fun a ha => ?_, h0⟩
      rcases List.mem_cons.mp ha with rfl | ha
      · exact lt
      · have := h.1 a ha; omega
    · split
      · exact h0
      · refine List.pairwise_cons.mpr ⟨fun a ha => ?_, insSN_up h.2⟩
        rcases insSN_mem.mp ha with rfl | ha
        · omega
        · exact h.1 a ha
theorem setN_up : ∀ r : List Nat, (setN r).Pairwise (· < ·)
  | [] => .nil
  | z :: r => insSN_up (setN_up r)
theorem sset_nI (ns : List Nat) (h : ns.length < 64) : ssetD [.tup (ns.map nI)] = some (.nw ((setN ns).map nI)) := by
  unfold ssetD
  simp only [allI_nI, setI_nat]
  rw [if_pos (by rw [List.length_map]; exact h), map_nI]
theorem rngL0 (n : Nat) : rngL 0 n = (List.range n).map nI := by
  unfold rngL
  refine List.map_congr_left fun i _ => ?_
  show D.int _ = D.int _
  rw [Int.zero_add]
/-- a loop that ends at the first hit -/
theorem for_find {g : D → M Unit} {b : Env → Fl} {ρ : Env} (p : Nat → Bool) (r : Nat → Rv) (σ : Nat → Env) : ∀ (n k0 : Nat) (lo : Int),
    (∀ k, k0 ≤ k → k < k0 + n → p k = false → toFl (g (.int (lo + ((k - k0 : Nat) : Int))) ρ) (fun _ => b) = .nx ρ) → (∀ k, k0 ≤ k → k < k0 + n → p k = true → toFl (g (.int (lo + ((k - k0 : Nat) : Int))) ρ) (fun _ => b) = .rt (r k) (σ k)) →
    (∃ t, k0 ≤ t ∧ t < k0 + n ∧ p t = true ∧ (∀ k, k0 ≤ k → k < t → p k = false) ∧ forL g b (rngL lo n) ρ = .rt (r t) (σ t)) ∨ ((∀ k, k0 ≤ k → k < k0 + n → p k = false) ∧ forL g b (rngL lo n) ρ = .nx ρ)
  | 0, k0, lo, _, _ => .inr ⟨fun k h1 h2 => by omega, for_nil g b ρ⟩
  | n + 1, k0, lo, h0, h1 => by
    rw [rngL_cons]
    cases q : p k0 with
    | true =>
      have e := h1 k0 (Nat.le_refl _) (by omega) q
      rw [Nat.sub_self] at e
      have e : toFl (g (.int lo) ρ) (fun _ => b) = .rt (r k0) (σ k0) := by simpa using e
      refine .inl ⟨k0, Nat.le_refl _, by omega, q, fun k a c => by omega, ?_⟩
      rw [forL]
      cases w : g (.int lo) ρ with
      | ok u ρ1 =>
        rw [w] at e
        have e : b ρ1 = .rt (r k0) (σ k0) := e
        simp only [e]
      | exc x ρ1 => rw [w] at e; cases e
      | bad => rw [w] at e; cases e
    | false =>
      have e := h0 k0 (Nat.le_refl _) (by omega) q
      rw [Nat.sub_self] at e
      have e : toFl (g (.int lo) ρ) (fun _ => b) = .nx ρ := by simpa using e
      rw [for_one e]
      have sh : ∀ k, k0 + 1 ≤ k → lo + 1 + ((k - (k0 + 1) : Nat) : Int) = lo + ((k - k0 : Nat) : Int) := fun k hk => by omega
      rcases for_find p r σ n (k0 + 1) (lo + 1) (fun k a c d => by rw [sh k a]; exact h0 k (by omega) (by omega) d) (fun k a c d => by rw [sh k a]; exact h1 k (by omega) (by omega) d) with ⟨t, t1, t2, t3, t4, t5⟩ | ⟨t1, t2⟩
      · refine .inl ⟨t, by omega, by omega, t3, fun k a c => ?_, t5⟩
        rcases Nat.lt_or_ge k0 k with z | z
        · exact t4 k z c
        · have : k = k0 := by omega
          rw [this]; exact q
      · refine .inr ⟨fun k a c => ?_, t2⟩
        rcases Nat.lt_or_ge k0 k with z | z
        · exact t1 k z (by omega)
        · have : k = k0 := by omega
          rw [this]; exact q
theorem cut_last2 (xs : List D) : cutR (.tup xs) (some (-2)) none = some (.im (.tup (xs.drop (xs.length - 2)))) := by
  show some (Rv.im (.tup ((xs.drop (HT.sIx xs.length 0 (some (-2)))).take (HT.sIx xs.length xs.length none - HT.sIx xs.length 0 (some (-2)))))) = _
  have e : HT.sIx xs.length 0 (some (-2)) = xs.length - 2 := by
    show (if (-2 : Int) < 0 then ((-2 : Int) + (xs.length : Int)).toNat else min (-2 : Int).toNat xs.length) = _
    rw [if_pos (by decide)]
    omega
  rw [HT.sIx_none, e, List.take_of_length_le (by rw [List.length_drop]; omega)]
theorem rev_nI (ns : List Nat) : revD (.tup (ns.map nI)) = some (.im (.tup (ns.reverse.map nI))) := by
  show some (Rv.im (.tup (ns.map nI).reverse)) = _
  rw [List.map_reverse]
theorem rev_lI (ns : List Nat) : revD (.lst (ns.map nI)) = some (.nw (ns.reverse.map nI)) := by
  show some (Rv.nw (ns.map nI).reverse) = _
  rw [List.map_reverse]
theorem sum_cast : ∀ ns : List Nat, (ns.map fun n : Nat => (n : Int)).sum = ((ns.sum : Nat) : Int)
  | [] => rfl
  | n :: ns => by rw [List.map_cons, List.sum_cons, List.sum_cons, sum_cast ns, Int.natCast_add]
theorem f_sum_tI (ns : List Nat) : Bf.sum.den [.tup (ns.map nI)] = some (.im (nI ns.sum)) := by
  show dSum [.tup (ns.map nI)] = _
  unfold dSum
  simp only [allI_nI, Option.map_some, sum_cast]
theorem f_all_bl (bs : List Bool) : Bf.all.den [.lst (bs.map D.bl)] = some (.im (.bl (bs.all id))) := by
  show dAll [.lst (bs.map D.bl)] = _
  unfold dAll
  simp only [allB_map, Option.map_some]
theorem zip_nI : ∀ (xs ys : List Nat), zipL (xs.map nI) (ys.map nI) = (xs.zip ys).map fun p => D.tup [nI p.1, nI p.2]
  | [], ys => by cases ys <;> rfl
  | x :: xs, [] => rfl
  | x :: xs, y :: ys => by
    show D.tup [nI x, nI y] :: zipL (xs.map nI) (ys.map nI) = _
    rw [zip_nI xs ys]
    rfl
def zipS : D → D → M (List D)
  | .lst xs, .lst ys => mret (zipL xs ys)
  | .tup xs, .tup ys => mret (zipL xs ys)
  | _, _ => mbad
@[simp] theorem dn_zip (G : FT) (W : CT) (a b : E) : It.den G W (.zip a b) = mbind (fz (a.den G W)) fun x => mbind (fz (b.den G W)) fun y => zipS x y := by
  rw [It.den]
  refine congrArg _ (funext fun x => congrArg _ (funext fun y => ?_))
  cases x <;> cases y <;> rfl
theorem zipS_t (xs ys : List D) : zipS (.tup xs) (.tup ys) = mret (zipL xs ys) := Eq.trans rfl rfl
theorem repr_oo (o : Option Nat) (h : ∀ t, o = some t → t ≤ 1000000000) : ∃ s, Bf.repr.den [.lst [oI o, oI o]] = some (.im (.str s)) := by
  cases o with
  | none => exact ⟨_, rfl⟩
  | some t =>
    have ht := h t rfl
    have hs : (PyData.shown (.int (t : Int))).length ≤ 13 := PyData.shown_int_le (by omega)
    refine ⟨(PyData.list [.int (t : Int), .int (t : Int)]).shown, ?_⟩
    have hl : t.log2 < 1920 := by
      by_cases ne : t = 0
      · subst ne; decide
      · have := (Nat.log2_lt (k := 40) ne).mpr (by omega)
        omega
    have hf : (PyData.list [.int (t : Int), .int (t : Int)]).shown.length ≤ sizeLine := by
      refine PyData.shown_fits (B := 13) (by decide) (by decide) ?_ ?_
      · simp [PyData.leavesShort, PyData.leavesShortAll, hs]
      · have hw : (if t = 0 then 0 else t.log2 + 1) ≤ 100 := by
          split
          · omega
          · rename_i ne
            have := (Nat.log2_lt (k := 40) ne).mpr (by omega)
            omega
        simp [PyData.weight, PyData.weightAll]
        omega
    show dRepr [.lst [.int (t : Int), .int (t : Int)]] = _
    unfold dRepr
    simp only [D.py, D.pys]
    rw [if_pos ⟨by simp [PyData.showable, PyData.showableAll]; exact hl, by rfl, hf, by simp [PyData.depth, PyData.depthAll]⟩]
/-- rising coins of 1 to 100 -/
structure Coins (cs : List Nat) : Prop where
  up : cs.Pairwise (· < ·)
  one : ∀ c ∈ cs, 1 ≤ c
  top : ∀ c ∈ cs, c ≤ 100
  pos : 1 ≤ cs.length
  le : cs.length ≤ 3
theorem coins_ends {cs : List Nat} (h : Coins cs) : ∃ c0 l, cs[0]? = some c0 ∧ cs.getLast? = some l ∧ c0 ∈ cs ∧ l ∈ cs ∧ (∀ c ∈ cs, c0 ≤ c) ∧ ∀ c ∈ cs, c ≤ l := by
  have hp := h.pos
  have hu := h.up
  match cs, hp, hu with
  | c :: r, _, hu =>
    rw [List.pairwise_cons] at hu
    refine ⟨c, (c :: r).getLast (by simp), rfl, List.getLast?_eq_some_getLast _, List.mem_cons_self, List.getLast_mem _, fun d hd => ?_, fun d hd => ?_⟩
    · rcases List.mem_cons.mp hd with rfl | hd
      · omega
      · have := hu.1 d hd; omega
    · have key : ∀ (r : List Nat) (c : Nat), (c :: r).Pairwise (· < ·) → ∀ (ne : c :: r ≠ []), ∀ d ∈ c :: r, d ≤ (c :: r).getLast ne := fun r => by
        induction r with
        | nil => intro c _ _ d hd; simp at hd; simp [hd]
        | cons e r ih =>
          intro c hp ne d hd
          rw [List.pairwise_cons] at hp
          rw [List.getLast_cons (by simp)]
          rcases List.mem_cons.mp hd with rfl | hd
          · have h1 := hp.1 e List.mem_cons_self
            have h2 := ih e hp.2 (by simp) e List.mem_cons_self
            omega
          · exact ih e hp.2 (by simp) d hd
      exact key r c (List.pairwise_cons.mpr hu) (by simp) d hd
end Pu
namespace K69
open PySem PySem.Spec PyProof.Rows L2 Pu
theorem v_is_whole (i : Int) : f_is_whole [.im (.int i)] = .ok (.im (.bl true)) [.no] := by
  rw [u_is_whole _ rfl]
  simp [b_is_whole]
theorem v_is_between (v a b : Int) : f_is_between [.im (.int v), .im (.int a), .im (.int b)] = .ok (.im (.bl (decide (a ≤ v ∧ v ≤ b)))) [.no, .no, .no] := by
  rw [u_is_between _ rfl]
  by_cases h : a ≤ v <;> simp [b_is_between, gOf, v_is_whole, h]
theorem v_is_row (xs : List D) (a b : Int) : f_is_row [.im (.tup xs), .im (.int a), .im (.int b)] = .ok (.im (.bl (decide (a ≤ xs.length ∧ (xs.length : Int) ≤ b)))) [.no, .no, .no] := by
  rw [u_is_row _ rfl]
  by_cases h : a ≤ xs.length <;> simp [b_is_row, gOf, h]
theorem v_coin_behind (v : Nat) (us : List Nat) (h : 1 ≤ v ∧ v ≤ 100) (hw : ∀ u ∈ us, u < v) : f_is_coin_behind [.im (nI v), .im (tI us)] = .ok (.im (.bl true)) [.no, .no] := by
  have h1 : (1 : Int) ≤ v := by omega
  have h2 : (v : Int) ≤ 100 := by omega
  rcases List.eq_nil_or_concat us with rfl | ⟨ts, w, rfl⟩
  · have e : D.eq? (.tup []) (.tup []) = some true := (eq_tI [] []).trans (by simp)
    rw [u_is_coin_behind _ rfl]
    show ((b_is_coin_behind.den _ fv fu [.im (nI v), .im (.tup [])]).fn [.im (nI v), .im (.tup [])]) = _
    simp [b_is_coin_behind, gOf, fv, v_is_between, h1, h2, e]
  · rw [List.concat_eq_append] at hw ⊢
    have e : D.eq? (.tup ((ts ++ [w]).map nI)) (.tup []) = some false := (eq_tI (ts ++ [w]) []).trans (by simp)
    have e2 : atI ((ts ++ [w]).map nI) (-1) = some (nI w) := at_m1 (by simp)
    have e3 : (w : Int) < v := by have := hw w (by simp); omega
    rw [u_is_coin_behind _ rfl]
    show ((b_is_coin_behind.den _ fv fu [.im (nI v), .im (.tup ((ts ++ [w]).map nI))]).fn [.im (nI v), .im (.tup ((ts ++ [w]).map nI))]) = _
    generalize (ts ++ [w]).map nI = zs at e e2 ⊢
    simp [b_is_coin_behind, gOf, fv, v_is_between, h1, h2, e, e2, e3]
theorem v_first_wrong (cs : List Nat) (h : Coins cs) : f_first_wrong [.im (tI cs), .im (.fn i_is_coin_behind)] = .ok (.im .non) [.no, .no] := by
  have loop : ∀ (post pre : List Nat), pre ++ post = cs → forL (fun d => (Tg.tup (.cons (.nm 2) (.cons (.nm 3) .nil))).den (gOf g_first_wrong) fv (.im d)) (l1_first_wrong.den (gOf g_first_wrong) fv fu) (enumL pre.length (post.map nI)) [.im (tI cs), .im (.fn i_is_coin_behind), .no, .no] = .nx [.im (tI cs), .im (.fn i_is_coin_behind), .no, .no] := by
    intro post
    induction post with
    | nil => intro pre _; simp [enumL]
    | cons c post ih =>
      intro pre e
      have h2 := ih (pre ++ [c]) (by rw [List.append_assoc]; exact e)
      rw [List.length_append] at h2
      rw [List.map_cons, enumL]
      have tk : (cs.map nI).take pre.length = pre.map nI := by rw [← e, List.map_append]; simp
      have mc : c ∈ cs := by rw [← e]; simp
      have hc := v_coin_behind c pre ⟨h.one c mc, h.top c mc⟩ (fun u hu => by
        have := h.up
        rw [← e, List.pairwise_append] at this
        exact this.2.2 u hu c (by simp))
      have hl : pre.length ≤ (cs.map nI).length := by rw [← e]; simp
      refine (for_one ?_).trans h2
      simp [l1_first_wrong, callvS_f (G := gOf g_first_wrong) (k := i_is_coin_behind) (φ := f_is_coin_behind) rfl, cut_pre _ _ hl, tk, hc]
  have h2 := loop cs [] rfl
  simp only [List.length_nil] at h2
  rw [u_first_wrong _ rfl]
  simp [b_first_wrong, w1_first_wrong, h2]
theorem v_wrong_coin (cs : List Nat) (h : Coins cs) : f_wrong_coin [.im (tI cs)] = .ok (.im .non) [.no] := by
  rw [u_wrong_coin _ rfl]
  have e := v_first_wrong cs h
  unfold i_is_coin_behind at e
  simp [b_wrong_coin, gOf, e]
theorem v_check_coins (cs : List Nat) (h : Coins cs) : f_check_coins [.im (tI cs)] = .ok (.im .non) [.no] := by
  have h1 : (1 : Int) ≤ (cs.length : Int) := by have := h.pos; omega
  have h2 : (cs.length : Int) ≤ 3 := by have := h.le; omega
  have e := v_is_row (cs.map nI) 1 3
  rw [List.length_map, decide_eq_true ⟨h1, h2⟩] at e
  rw [u_check_coins _ rfl]
  simp [b_check_coins, gOf, fv, e, v_wrong_coin cs h]
end K69
namespace K69
open PySem PySem.Spec PyProof.Rows L2 Pu
theorem v_is_amount (v : Int) : f_is_amount [.im (.int v)] = .ok (.im (.bl (decide (0 ≤ v ∧ v ≤ 2000)))) [.no] := by
  rw [u_is_amount _ rfl]
  simp [b_is_amount, gOf, fv, v_is_between]
theorem v_check_amount (v : Nat) (h : v ≤ 2000) : f_check_amount [.im (nI v)] = .ok (.im .non) [.no] := by
  rw [u_check_amount _ rfl]
  have h1 : (0 : Int) ≤ v := by omega
  have h2 : (v : Int) ≤ 2000 := by omega
  simp [b_check_amount, gOf, v_is_amount, h1, h2]
theorem v_check_paid (cs : List Nat) (a : Nat) (h : Coins cs) (ha : a ≤ 2000) : f_check_paid [.im (tI cs), .im (nI a)] = .ok (.im .non) [.no, .no] := by
  rw [u_check_paid _ rfl]
  simp [b_check_paid, gOf, v_check_coins cs h, v_check_amount a ha]
section
variable (G : FT)
theorem e_c2_fewest_to (cs : List Nat) (n k : Nat) (hz : cs.length ≤ 3) (h1 : ∀ c ∈ cs, 1 ≤ c) (T : Sl) (hT : T = .no) (F : List (Option Nat)) (hF : F = (List.range (k + 1)).map (Pm.few cs)) :
    c2_fewest_to.den G fv [.im (tI cs), .im (nI n), .ow (F.map oI), .im (.int (1 + (k : Int))), T, .no, .no] = .ok (.nw (((cs.filter fun c => decide (c ≤ k + 1)).map fun c => Pm.few cs (k + 1 - c)).map oI)) [.im (tI cs), .im (nI n), .ow (F.map oI), .im (.int (1 + (k : Int))), T, .no, .no] := by
  have big : 3 ≤ sizeLine := by decide
  subst hT
  unfold c2_fewest_to
  rw [dn_comp, comp_map nI (fun c => decide (c ≤ k + 1)) (fun c => oI (Pm.few cs (k + 1 - c))) cs (ρ1 := [.im (tI cs), .im (nI n), .ow (F.map oI), .im (.int (1 + (k : Int))), .no, .no, .no]) (by simp) (by simp [noOwn]) (by omega), List.map_map]
  · rfl
  · intro c hc
    have hc1 := h1 c hc
    refine ⟨[.im (tI cs), .im (nI n), .ow (F.map oI), .im (.int (1 + (k : Int))), .no, .im (nI c), .no], by simp, ?_, fun q => ?_, by simp⟩
    · have e : ((c : Int) ≤ 1 + (k : Int)) = (c ≤ k + 1) := by
        apply propext; omega
      by_cases q : c ≤ k + 1 <;> simp [e, q]
    · have q : c ≤ k + 1 := of_decide_eq_true q
      have e : atI (F.map oI) (1 + (k : Int) - (c : Int)) = some (oI (Pm.few cs (k + 1 - c))) := by
        rw [at_mapI (i := k + 1 - c) (by omega) (by rw [hF]; simp; omega)]
        simp [hF]
      simp [e]
theorem e_c1_fewest_to (ys : List (Option Nat)) (a b c d : Sl) (hz : ys.length ≤ 3) :
    c1_fewest_to.den G fv [a, b, c, d, .ow (ys.map oI), .no, .no] = .ok (.nw (((ys.filterMap id).map (· + 1)).map nI)) [a, b, c, d, .im (.lst (ys.map oI)), .no, .no] := by
  have big : 3 ≤ sizeLine := by decide
  have fm : ∀ ys : List (Option Nat), (ys.filter fun o => decide (o ≠ none)).map (fun o => D.int ((o.getD 0 : Nat) + 1)) = ((ys.filterMap id).map (· + 1)).map nI := fun ys => by
    induction ys with
    | nil => rfl
    | cons y ys ih =>
      cases y with
      | none => simpa using ih
      | some n => simpa using ih
  unfold c1_fewest_to
  rw [dn_comp, comp_map oI (fun o => decide (o ≠ none)) (fun o => D.int ((o.getD 0 : Nat) + 1)) ys (ρ1 := [a, b, c, d, .im (.lst (ys.map oI)), .no, .no]) (by simp) (by simp [noOwn]) (by omega), fm]
  intro o ho
  refine ⟨[a, b, c, d, .im (.lst (ys.map oI)), .no, .im (oI o)], by simp, by simp, fun q => ?_, by simp⟩
  cases o with
  | none => cases q
  | some i => simp
theorem minO_up (f : Nat → Option Nat) : ∀ xs : List Nat, Pm.minO ((((xs.map f).filterMap id).map (· + 1)).map some) = Pm.minO (xs.map fun c => (f c).map (· + 1))
  | [] => rfl
  | x :: xs => by
    have h := minO_up f xs
    simp only [List.filterMap_map, List.map_map, Function.comp_def, id] at h ⊢
    cases e : f x with
    | none => simpa [e, Pm.minO] using h
    | some y => simp [e, Pm.minO, h]
theorem e_l1_fewest_to (cs : List Nat) (n k : Nat) (h1 : ∀ c ∈ cs, 1 ≤ c) (hz : cs.length ≤ 3) (hk : k ≤ 10000) (F : List D) (hF : F = ((List.range (k + 1)).map (Pm.few cs)).map oI) :
    l1_fewest_to.den G fv fu [.im (tI cs), .im (nI n), .ow F, .im (.int (1 + (k : Int))), .no, .no, .no] = .nx [.im (tI cs), .im (nI n), .ow (F ++ [oI (Pm.few cs (k + 1))]), .no, .no, .no, .no] := by
  have a1 := e_c2_fewest_to G cs n k hz h1 .no rfl _ rfl
  have a2 := fun a b c d => e_c1_fewest_to G ((cs.filter fun c => decide (c ≤ k + 1)).map fun c => Pm.few cs (k + 1 - c)) a b c d (by rw [List.length_map]; exact Nat.le_trans (List.length_filter_le _ _) hz)
  have a4 : Pm.few cs (k + 1) = _ := Pm.few_step h1 (k + 1) (by omega)
  have a3 : F.length < sizeLine := by
    have big : 20000 ≤ sizeLine := by decide
    rw [hF, List.length_map, List.length_map, List.length_range]
    omega
  have a5 := minO_up (fun c => Pm.few cs (k + 1 - c)) (cs.filter fun c => decide (c ≤ k + 1))
  rw [← hF] at a1
  clear hF
  simp only [dn_nm, st_ap, List.getElem?_cons_succ, List.getElem?_cons_zero, stS_no, tf_ok, List.set_cons_succ, List.set_cons_zero, sl_im, l1_fewest_to, ds_cons, ds_asg, mbind_ap, a1, bd_ok, sl_nw, sq_nx, ds_app, own_ap, owS_ow, fz_ap, dn_mind, a2, rv_nw, mret_ap, dn_c, cn_n, rv_im, mind_nI, a5, ← a4, if_pos a3, wr_ap, wrS_ow, ds_wipe, we0, we1, ds_nil]
theorem e_w1_fewest_to (cs : List Nat) (n : Nat) (h1 : ∀ c ∈ cs, 1 ≤ c) (hz : cs.length ≤ 3) (hn : n ≤ 10000) :
    w1_fewest_to.den G fv fu [.im (tI cs), .im (nI n), .ow [.int 0], .no, .no, .no, .no] = .nx [.im (tI cs), .im (nI n), .ow (((List.range (n + 1)).map (Pm.few cs)).map oI), .no, .no, .no, .no] := by
  have e := @r2S_nat 1 (n + 1) (by omega) (by omega)
  rw [show n + 1 - 1 = n by omega] at e
  unfold w1_fewest_to
  simp only [ds_for, dn_r2, dn_b2, dn_v, rd_ap, rdS_im, dn_c, b_add, mopt_some, mbind_ap, fz_ap, mret_ap, bd_ok, rv_im, cn_i, List.getElem?_cons_succ, List.getElem?_cons_zero]
  rw [show (1 : Int) = ((1 : Nat) : Int) from rfl, show (n : Int) + ((1 : Nat) : Int) = ((n + 1 : Nat) : Int) by omega, e]
  refine for_rng (fun k => [.im (tI cs), .im (nI n), .ow (((List.range (k + 1)).map (Pm.few cs)).map oI), .no, .no, .no, .no]) (by simp [List.range_succ, Pm.few_zero]) fun k hk => ?_
  have a6 : ((List.range (k + 1 + 1)).map (Pm.few cs)).map oI = ((List.range (k + 1)).map (Pm.few cs)).map oI ++ [oI (Pm.few cs (k + 1))] := by
    rw [List.range_succ, List.map_append, List.map_append]; rfl
  have a7 := e_l1_fewest_to G cs n k h1 hz (by omega) _ rfl
  rw [a6]
  simp only [dn_nm, st_ap, List.getElem?_cons_succ, List.getElem?_cons_zero, stS_no, tf_ok, List.set_cons_succ, List.set_cons_zero, sl_im]
  exact a7
theorem v_fewest_to (cs : List Nat) (n : Nat) (h1 : ∀ c ∈ cs, 1 ≤ c) (hz : cs.length ≤ 3) (hn : n ≤ 10000) : f_fewest_to [.im (tI cs), .im (nI n)] = .ok (.nw (((List.range (n + 1)).map (Pm.few cs)).map oI)) [.no, .no] := by
  have h := e_w1_fewest_to (gOf g_fewest_to) cs n h1 hz hn
  rw [u_fewest_to _ rfl]
  simp [b_fewest_to, h]
end
theorem v_fewest_coins (cs : List Nat) (a : Nat) (h : Coins cs) (ha : a ≤ 2000) : f_fewest_coins [.im (tI cs), .im (nI a)] = .ok (.im (oI (Pm.few cs a))) [.no, .no] := by
  have e := at_rng (f := fun x => oI (Pm.few cs x)) (N := a + 1) (j := (a : Int)) rfl (by omega)
  have e2 := v_fewest_to cs a h.one h.le (by omega)
  rw [List.map_map] at e2
  rw [u_fewest_coins _ rfl]
  simp [b_fewest_coins, gOf, v_check_paid cs a h ha, e2, Function.comp_def, e]
end K69
namespace K69
open PySem PySem.Spec PyProof.Rows L2 Pu
def Bag (B : List D) : Prop := ∃ a b c : Nat, B = [nI a, nI b, nI c]
theorem v_law_take (B : List D) (t : Nat) (hB : Bag B) (h1 : 1 ≤ t) (h2 : t ≤ 1000000000) : ∃ r B', r < t ∧ Bag B' ∧ f_law_take [.io B, .im (nI t)] = .ok (.im (nI r)) [.io B', .no] := by
  obtain ⟨a, b, c, rfl⟩ := hB
  have p1 : (0 : Int) < t := by omega
  have p2 : (t : Int) < 1073741824 := by omega
  have p3 : 0 < t := by omega
  have p4 : t < 1073741824 := by omega
  by_cases h0 : (0 : Int) < a
  · refine ⟨a % t, [nI (a / t), nI b, nI c], Nat.mod_lt _ (by omega), ⟨_, _, _, rfl⟩, ?_⟩
    rw [u_law_take _ rfl]
    have h3 : 0 < a := by omega
    simp [b_law_take, gOf, h0, h3, p1, p2, p3, p4, atI, ixN, tsubS_i]
  · have ha : a = 0 := by omega
    subst ha
    have k1 : (0 : Int) ≤ ((b : Int) * 16807 + 4099 * ((c : Int) + 1) + 1) % 2147483647 := Int.emod_nonneg _ (by decide)
    obtain ⟨s, hs⟩ := Int.eq_ofNat_of_zero_le k1
    refine ⟨s / 911 % t, [nI 0, nI s, nI (c + 1)], Nat.mod_lt _ (by omega), ⟨_, _, _, rfl⟩, ?_⟩
    rw [u_law_take _ rfl]
    simp [b_law_take, gOf, p1, p2, p3, p4, atI, ixN, tsubS_i, hs]
theorem v_law_pull (B xs : List D) (hB : Bag B) (h1 : 1 ≤ xs.length) (h2 : xs.length ≤ 1000000000) : ∃ x ∈ xs, ∃ B', Bag B' ∧ f_law_pull [.io B, .im (.lst xs)] = .ok (.im x) [.io B', .no] := by
  obtain ⟨r, B', hr, hB', e⟩ := v_law_take B xs.length hB h1 h2
  refine ⟨xs[r], List.getElem_mem hr, B', hB', ?_⟩
  have e2 := atI_nt hr
  rw [u_law_pull _ rfl]
  simp [b_law_pull, gOf, e, e2]
theorem v_law_bag (ns : List Int) (lap : Nat) : ∃ B, Bag B ∧ f_law_bag [.im (.rol (ns.map D.int)), .im (nI lap)] = .ok (.nw B) [.no, .no] := by
  have lp : ∀ s : Int, ∃ s' : Int, w1_law_bag.den (gOf g_law_bag) fv fu [.im (.rol (ns.map D.int)), .im (nI lap), .im (.int s), .no, .no] = .nx [.im (.rol (ns.map D.int)), .im (nI lap), .im (.int s'), .no, .no] := fun s => by
    obtain ⟨ρ', h1, s', h2⟩ := for_holdM (g := fun d => Tg.den (gOf g_law_bag) fv (.nm 3) (.im d)) (b := l1_law_bag.den (gOf g_law_bag) fv fu) (fun ρ => ∃ s : Int, ρ = [.im (.rol (ns.map D.int)), .im (nI lap), .im (.int s), .no, .no]) ((ns.map D.int).take 16) [.im (.rol (ns.map D.int)), .im (nI lap), .im (.int s), .no, .no] (fun d hd ρ ⟨s, e⟩ => by
      obtain ⟨i, _, rfl⟩ := List.mem_map.mp (List.mem_of_mem_take hd)
      subst e
      refine ⟨[.im (.rol (ns.map D.int)), .im (nI lap), .im (.int ((s * 48271 + i % 2147483629 + 23) % 2147483647)), .no, .no], ?_, _, rfl⟩
      simp [l1_law_bag]) ⟨s, rfl⟩
    refine ⟨s', ?_⟩
    rw [← h2, ← h1]
    have e : cutR (.rol (ns.map D.int)) none (some 16) = _ := cut_preR (ns.map D.int) 16
    unfold w1_law_bag
    rw [ds_for]
    simp only [dn_seq, dn_slc, dn_v, rd_ap, dn_oe0, dn_oe1, mbind_ap, fz_ap, dn_c, mret_ap, bd_ok, cn_i, rv_im, oeS_i, List.getElem?_cons_zero, rdS_im, e, mopt_some, rv_nw, sq_l, tf_ok]
  obtain ⟨s', hs'⟩ := lp (52027 + 8009 * (lap : Int))
  have own : ∃ o : Int, (lap < ns.length ∧ atI (ns.map D.int) (lap : Int) = some (.int o)) ∨ (¬ lap < ns.length ∧ o = 0) := by
    by_cases h : lap < ns.length
    · exact ⟨ns[lap], .inl ⟨h, (atI_nt (by simpa using h)).trans (by simp)⟩⟩
    · exact ⟨0, .inr ⟨h, rfl⟩⟩
  obtain ⟨o, ho⟩ := own
  have k1 : (0 : Int) ≤ (s' * 31 + o % 2147483629 * 17 + 3) % 2147483647 := Int.emod_nonneg _ (by decide)
  obtain ⟨s, hs⟩ := Int.eq_ofNat_of_zero_le k1
  have fin : ∃ a : Nat, (if o < 0 ∨ (10 : Int) ^ 15 ≤ o then (if o < 0 then -o else o) else 0) = (a : Int) := by
    refine ⟨(if o < 0 ∨ (10 : Int) ^ 15 ≤ o then (if o < 0 then -o else o) else 0).toNat, ?_⟩
    rw [Int.toNat_of_nonneg]
    split
    · split <;> omega
    · omega
  obtain ⟨a, ha⟩ := fin
  refine ⟨[nI a, nI s, nI 0], ⟨_, _, _, rfl⟩, ?_⟩
  rw [u_law_bag _ rfl]
  by_cases c1 : o < 0
  · have hn : -o = (a : Int) := by rw [← ha, if_pos (.inl c1), if_pos c1]
    rcases ho with ⟨hl, e⟩ | ⟨hl, e⟩
    · simp [b_law_bag, hs', hl, e, hs, c1, hn]
    · omega
  · by_cases c2 : (1000000000000000 : Int) ≤ o
    · have hn : o = (a : Int) := by
        have c3 : (10 : Int) ^ 15 ≤ o := c2
        rw [← ha, if_pos (.inr c3), if_neg c1]
      rcases ho with ⟨hl, e⟩ | ⟨hl, e⟩
      · simp [b_law_bag, hs', hl, e, hs, c1, c2]
        exact hn
      · omega
    · have hn : a = 0 := by
        have c3 : ¬ (10 : Int) ^ 15 ≤ o := c2
        rw [if_neg (by omega)] at ha
        omega
      rcases ho with ⟨hl, e⟩ | ⟨hl, e⟩
      · simp [b_law_bag, hs', hl, e, hs, c1, c2, hn]
      · subst e
        simp at hs
        simp [b_law_bag, hs', hl, hs, hn]
end K69
namespace K69
open PySem PySem.Spec PyProof.Rows L2 Pu
structure Drawn (top : Nat) (cs : List Nat) : Prop where
  up : cs.Pairwise (· < ·)
  one : ∀ c ∈ cs, 1 ≤ c
  top : ∀ c ∈ cs, c ≤ top
  pos : 1 ≤ cs.length
  le : cs.length ≤ 3
theorem v_law_coins (B : List D) (top : Nat) (hB : Bag B) (h1 : 1 ≤ top) (h2 : top ≤ 1000000000) : ∃ cs B', Drawn top cs ∧ Bag B' ∧ f_law_coins [.io B, .im (nI top)] = .ok (.im (tI cs)) [.io B', .no] := by
  obtain ⟨x, hx, B1, hB1, e1⟩ := v_law_pull B [.int 1, .int 2, .int 2, .int 3, .int 3, .int 3] hB (by simp) (by simp)
  obtain ⟨m, hm, em⟩ : ∃ m : Nat, (1 ≤ m ∧ m ≤ 3) ∧ x = nI m := by
    simp at hx
    rcases hx with rfl | rfl | rfl
    · exact ⟨1, by omega, rfl⟩
    · exact ⟨2, by omega, rfl⟩
    · exact ⟨3, by omega, rfl⟩
  subst em
  obtain ⟨ρ', h3, B', xs, hB', n1, n2, n3, n4, h4⟩ := for_rngI (g := fun d => Tg.den (gOf g_law_coins) fv (.nm 3) (.im d)) (b := l1_law_coins.den (gOf g_law_coins) fv fu)
    (fun k ρ => ∃ (B : List D) (xs : List Nat), Bag B ∧ xs.Nodup ∧ (∀ c ∈ xs, 1 ≤ c ∧ c ≤ top) ∧ xs.length ≤ k ∧ (0 < k → 1 ≤ xs.length) ∧ ρ = [.io B, .im (nI top), .ow (xs.map nI), .no, .no]) m 0 0 [.io B1, .im (nI top), .ow [], .no, .no] (fun k ρ _ _ ⟨B, xs, hB, n1, n2, n3, n4, e⟩ => by
      subst e
      obtain ⟨r, B', hr, hB', e⟩ := v_law_take B top hB h1 h2
      have c0 := nin_nI (r + 1) xs
      rw [show nI (r + 1) = D.int (1 + (r : Int)) by show D.int _ = _; congr 1; omega] at c0
      by_cases q : r + 1 ∈ xs
      · refine ⟨[.io B', .im (nI top), .ow (xs.map nI), .no, .no], ?_, B', xs, hB', n1, n2, by omega, fun _ => ?_, rfl⟩
        · have c := cat_le (xs := xs.map nI) (ys := []) (by simp; omega) (by simp)
          simp [q] at c0
          simp at c
          simp [l1_law_coins, gOf, e, c0, c]
        · exact List.length_pos_of_mem q
      · refine ⟨[.io B', .im (nI top), .ow ((xs ++ [r + 1]).map nI), .no, .no], ?_, B', xs ++ [r + 1], hB', ?_, ?_, ?_, fun _ => ?_, rfl⟩
        · have c := cat_le (xs := xs.map nI) (ys := [D.int (1 + (r : Int))]) (by simp; omega) (by simp)
          have e5 : nI (r + 1) = D.int (1 + (r : Int)) := by show D.int _ = _; congr 1; omega
          simp [q] at c0
          rw [List.map_append, List.map_cons, List.map_nil, e5]
          simp [l1_law_coins, gOf, e, c0, c]
        · rw [List.nodup_append]
          exact ⟨n1, by simp, fun a ha b hb => by
            have hb : b = r + 1 := by simpa using hb
            subst hb
            rintro rfl
            exact q ha⟩
        · intro c hc
          rcases List.mem_append.mp hc with hc | hc
          · exact n2 c hc
          · have hc : c = r + 1 := by simpa using hc
            omega
        · rw [List.length_append]; simp; omega
        · rw [List.length_append]; simp) ⟨B1, [], hB1, .nil, by simp, by simp, by omega, rfl⟩
  rw [Nat.zero_add] at n3 n4
  refine ⟨sortN xs, B', ⟨sortN_up n1, fun c hc => (n2 c (sortN_mem.mp hc)).1, fun c hc => (n2 c (sortN_mem.mp hc)).2, by rw [sortN_len]; exact n4 (by omega), by rw [sortN_len]; omega⟩, hB', ?_⟩
  subst h4
  have w : w1_law_coins.den (gOf g_law_coins) fv fu [.io B, .im (nI top), .ow [], .no, .no] = .nx [.io B', .im (nI top), .ow (xs.map nI), .no, .no] := by
    unfold w1_law_coins
    rw [ds_for]
    simp at h3
    simp [gOf, e1, r1S_nat (j := m) (by omega), h3]
  rw [u_law_coins _ rfl]
  simp [b_law_coins, w, f_sorted_nI]
end K69
namespace K69
open PySem PySem.Spec PyProof.Rows L2 Pu
theorem v_common_of (cs : List Nat) : f_common_of [.im (tI cs)] = .ok (.im (nI (Pm.gcdL cs))) [.no] := by
  have lp := for_pre0 (g := fun d => Tg.den (gOf g_common_of) fv (.nm 2) (.im d)) (b := l1_common_of.den (gOf g_common_of) fv fu) nI (fun pre => [.im (tI cs), .im (nI (Pm.gcdL pre)), .no]) cs rfl fun a x c e => by
    have e2 : Pm.gcdL (a ++ [x]) = Nat.gcd (Pm.gcdL a) x := by
      unfold Pm.gcdL
      rw [List.foldl_append]
      rfl
    rw [e2]
    simp [l1_common_of]
  have w : w1_common_of.den (gOf g_common_of) fv fu [.im (tI cs), .im (.int 0), .no] = .nx [.im (tI cs), .im (nI (Pm.gcdL cs)), .no] := by
    unfold w1_common_of
    rw [ds_for]
    simp at lp
    have e0 : (nI (Pm.gcdL [])) = D.int 0 := rfl
    rw [e0] at lp
    simp [lp]
  rw [u_common_of _ rfl]
  simp [b_common_of, w]
section
variable (G : FT)
abbrev fpSt (ls : List Nat) (m : Nat) (F : Nat → Option Nat) (line : List Nat) (r a b c : Sl) : Pu.Env := [.im (.lst (ls.map nI)), .im (nI m), .ow ((List.range m).map fun x => oI (F x)), .ow (line.map nI), r, a, b, c]
theorem set_up (F : Nat → Option Nat) (m l x : Nat) : ((List.range m).map fun a => oI (F a)).set l (.int (x : Int)) = (List.range m).map fun a => oI (Pm.upF F l x a) := by
  rw [set_rng]
  refine rng_congr fun a _ => ?_
  unfold Pm.upF
  split <;> rfl
theorem e_l1_first_paid (ls : List Nat) (m M B : Nat) (F : Nat → Option Nat) (line : List Nat) (r v : Nat) (pre : List Nat) (c : Nat) (h : Pm.Mid ls m M F line r v pre) (hm : 1 ≤ m) (hc : c ∈ ls) (h1 : 1 ≤ c) (hM : c ≤ M) (hB : m * M < B) (hl : line.length ≤ 10000000) (hr : r < m) :
    ∃ F' line', Pm.Mid ls m M F' line' r v (pre ++ [c]) ∧ 2 * Pm.pot F' B m + line'.length ≤ 2 * Pm.pot F B m + line.length ∧ l1_first_paid.den G fv fu (fpSt ls m F line (.im (nI r)) (.im (nI c)) .no .no) = .nx (fpSt ls m F' line' (.im (nI r)) .no .no .no) := by
  have hlt : (r + c) % m < m := Nat.mod_lt _ hm
  have big : 10000000 < sizeLine := by decide
  have a1 := at_rng (f := fun x => oI (F x)) (N := m) (j := (r : Int)) rfl hr
  have a2 := at_rng (f := fun x => oI (F x)) (N := m) (j := ((r : Int) + (c : Int)) % (m : Int)) (i := (r + c) % m) (by rw [← Int.natCast_add, ← Int.natCast_emod]) hlt
  have a3 := ix_rng (f := fun x => oI (F x)) (N := m) (j := ((r : Int) + (c : Int)) % (m : Int)) (i := (r + c) % m) (by rw [← Int.natCast_add, ← Int.natCast_emod]) hlt
  have e4 : D.int (((r : Int) + (c : Int)) % (m : Int)) = nI ((r + c) % m) := by
    show D.int _ = D.int _
    congr 1
  rw [h.cur] at a1
  have p3 : 0 < m := by omega
  have a4 : (line.map nI).length < sizeLine := by rw [List.length_map]; omega
  rcases h.step hm hc h1 hM hB with ⟨u, g1, g2, g3⟩ | ⟨g1, g3, g4⟩
  · refine ⟨F, line, g3, Nat.le_refl _, ?_⟩
    rw [g1] at a2
    have lt : ¬ ((v : Int) + (c : Int) < (u : Int)) := by omega
    simp only [fpSt]
    generalize ((List.range m).map fun x => oI (F x)) = FL at a1 a2 a3 ⊢
    simp at a1 a2
    simp [l1_first_paid, a1, a2, p3, lt]
  · refine ⟨_, _, g3, by rw [List.length_append]; simp only [List.length_cons, List.length_nil]; omega, ?_⟩
    have e5 := set_up F m ((r + c) % m) (v + c)
    rw [Int.natCast_add] at e5
    show l1_first_paid.den G fv fu _ = .nx [.im (.lst (ls.map nI)), .im (nI m), .ow ((List.range m).map fun x => oI (Pm.upF F ((r + c) % m) (v + c) x)), .ow ((line ++ [(r + c) % m]).map nI), .im (nI r), .no, .no, .no]
    rw [← e5, List.map_append, List.map_cons, List.map_nil, ← e4]
    show l1_first_paid.den G fv fu [.im (.lst (ls.map nI)), .im (nI m), .ow ((List.range m).map fun x => oI (F x)), .ow (line.map nI), .im (nI r), .im (nI c), .no, .no] = _
    cases q : F ((r + c) % m) with
    | none =>
      rw [q] at a2
      generalize ((List.range m).map fun x => oI (F x)) = FL at a1 a2 a3 ⊢
      generalize line.map nI = LL at a4 ⊢
      simp at a1 a2
      simp [l1_first_paid, a1, a2, p3, tsubS_i a3, a4]
    | some u =>
      rw [q] at a2
      have lt : (v : Int) + (c : Int) < (u : Int) := by have := g1 u q; omega
      generalize ((List.range m).map fun x => oI (F x)) = FL at a1 a2 a3 ⊢
      generalize line.map nI = LL at a4 ⊢
      simp at a1 a2
      simp [l1_first_paid, a1, a2, p3, tsubS_i a3, a4, lt]
theorem e_l2_first_paid (ls : List Nat) (m M B : Nat) (F : Nat → Option Nat) (line : List Nat) (r : Nat) (h : Pm.Head ls m M F (line ++ [r])) (hm : 1 ≤ m) (h1 : ∀ c ∈ ls, 1 ≤ c ∧ c ≤ M) (hB : m * M < B) (hl : 2 * Pm.pot F B m + line.length ≤ 10000000) :
    ∃ F' line', Pm.Head ls m M F' line' ∧ 2 * Pm.pot F' B m + line'.length < 2 * Pm.pot F B m + (line ++ [r]).length ∧ l2_first_paid.den G fv fu (fpSt ls m F (line ++ [r]) .no .no .no .no) = .nx (fpSt ls m F' line' .no .no .no .no) := by
  obtain ⟨v, hr, hv, hmid⟩ := h.pop
  obtain ⟨ρ', h2, F', line', h3, h4, h5⟩ := for_preI (g := fun d => Tg.den G fv (.nm 5) (.im d)) (b := l1_first_paid.den G fv fu) nI (fun pre ρ => ∃ F' line', Pm.Mid ls m M F' line' r v pre ∧ 2 * Pm.pot F' B m + line'.length ≤ 2 * Pm.pot F B m + line.length ∧ ρ = fpSt ls m F' line' (.im (nI r)) .no .no .no) ls [] (fpSt ls m F line (.im (nI r)) .no .no .no) (fun a x c ρ e ⟨F1, l1, i1, i2, i3⟩ => by
    have hx : x ∈ ls := by
      rw [List.nil_append] at e
      rw [e]; simp
    obtain ⟨F2, l2, j1, j2, j3⟩ := e_l1_first_paid G ls m M B F1 l1 r v a x i1 hm hx (h1 x hx).1 (h1 x hx).2 hB (by omega) hr
    subst i3
    refine ⟨_, ?_, F2, l2, j1, by omega, rfl⟩
    simp only [fpSt] at j3 ⊢
    simpa using j3) ⟨F, line, hmid, Nat.le_refl _, rfl⟩
  subst h5
  rw [List.nil_append] at h3
  refine ⟨F', line', h3.done, by rw [List.length_append]; simp only [List.length_cons, List.length_nil]; omega, ?_⟩
  have w : w1_first_paid.den G fv fu (fpSt ls m F line (.im (nI r)) .no .no .no) = .nx (fpSt ls m F' line' (.im (nI r)) .no .no .no) := by
    unfold w1_first_paid
    rw [ds_for]
    simp only [fpSt] at h2 ⊢
    simp at h2
    simp [h2]
  have g1 : ((line ++ [r]).map nI).getLast? = some (nI r) := by rw [List.map_append]; simp
  have g2 : ((line ++ [r]).map nI).dropLast = line.map nI := by rw [List.map_append]; simp
  simp only [fpSt] at w ⊢
  generalize (line ++ [r]).map nI = LL at g1 g2 ⊢
  simp [l2_first_paid, g1, g2, w]
theorem pot_le (F : Nat → Option Nat) (B m : Nat) (h : ∀ s w, F s = some w → w ≤ B) : Pm.pot F B m ≤ m * B := by
  refine Pm.sumR_le fun a _ => ?_
  cases q : F a with
  | none => exact Nat.le_refl _
  | some w => exact h a w q
end
theorem onil_nI (xs : List Nat) : onilS true (xs.map nI) = mret (!xs.isEmpty) := by
  have e : D.pys (xs.map nI) = some ((xs.map fun n : Nat => (n : Int)).map PyData.int) := by rw [map_nI, pys_map]
  unfold onilS
  rw [e]
  simp only [shaped_l, if_true]
  cases xs <;> rfl
theorem v_first_paid (ls : List Nat) (m : Nat) (hm : m ∈ ls) (h1 : ∀ c ∈ ls, 1 ≤ c ∧ c ≤ 100) (hg : Pm.gcdL ls = 1) (M : Nat) (hM : ∀ c ∈ ls, c ≤ M) (hM2 : M ≤ 100) : ∃ F, Pm.Sol ls m M F ∧ f_first_paid [.im (.lst (ls.map nI)), .im (nI m)] = .ok (.nw ((List.range m).map fun a => oI (F a))) [.no, .no] := by
  have m1 := (h1 m hm).1
  have m2 := (h1 m hm).2
  have hh : ∀ c ∈ ls, 1 ≤ c ∧ c ≤ M := fun c hc => ⟨(h1 c hc).1, hM c hc⟩
  have mM : m * M ≤ 10000 := Nat.le_trans (Nat.mul_le_mul m2 hM2) (by decide)
  have H0 : 2 * Pm.pot Pm.F0 (m * M + 1) m + 1 ≤ 3000000 := by
    have hp := pot_le Pm.F0 (m * M + 1) m fun s w hs => by
      unfold Pm.F0 at hs
      split at hs
      · cases hs; omega
      · cases hs
    have hp2 : m * (m * M + 1) ≤ 100 * 10001 := Nat.mul_le_mul m2 (by omega)
    omega
  obtain ⟨⟨F, line⟩, e, hs⟩ := while_hold (t := (T.onil true 3).den (gOf g_first_paid) fv) (b := l2_first_paid.den (gOf g_first_paid) fv fu) (fun a : (Nat → Option Nat) × List Nat => fpSt ls m a.1 a.2 .no .no .no .no)
    (fun a => Pm.Head ls m M a.1 a.2 ∧ 2 * Pm.pot a.1 (m * M + 1) m + a.2.length ≤ 3000000) (fun a => a.2 = [] ∧ Pm.Sol ls m M a.1) (fun a => 2 * Pm.pot a.1 (m * M + 1) m + a.2.length) (fun a i => by
      obtain ⟨F, line⟩ := a
      rcases List.eq_nil_or_concat line with rfl | ⟨l, r, rfl⟩
      · refine .inl ⟨?_, rfl, i.1.sol m1 hg⟩
        have e := onil_nI []
        simp only [fpSt]
        simp at e
        simp [e]
      · rw [List.concat_eq_append] at i ⊢
        have ib : 2 * Pm.pot F (m * M + 1) m + (l ++ [r]).length ≤ 3000000 := i.2
        have i : Pm.Head ls m M F (l ++ [r]) := i.1
        refine .inr ⟨?_, ?_⟩
        · have e := onil_nI (l ++ [r])
          simp only [fpSt]
          have q : (!(l ++ [r]).isEmpty) = true := by simp
          rw [q] at e
          generalize (l ++ [r]).map nI = LL at e ⊢
          simp [e]
        · rw [List.length_append] at ib
          simp only [List.length_cons, List.length_nil] at ib
          obtain ⟨F', line', j1, j2, j3⟩ := e_l2_first_paid (gOf g_first_paid) ls m M (m * M + 1) F l r i m1 hh (Nat.lt_succ_self _) (by omega)
          rw [List.length_append] at j2
          simp only [List.length_cons, List.length_nil] at j2
          refine ⟨(F', line'), j3, ⟨j1, ?_⟩, ?_⟩
          · show 2 * Pm.pot F' (m * M + 1) m + line'.length ≤ 3000000
            omega
          · show 2 * Pm.pot F' (m * M + 1) m + line'.length < 2 * Pm.pot F (m * M + 1) m + (l ++ [r]).length
            rw [List.length_append]
            simp only [List.length_cons, List.length_nil]
            omega) fu (Pm.F0, [0]) ⟨Pm.Head.start ls m1, H0⟩ (by
      have hp := pot_le Pm.F0 (m * M + 1) m fun s w hs => by
        unfold Pm.F0 at hs
        split at hs
        · cases hs; omega
        · cases hs
      have hp2 : m * (m * M + 1) ≤ 100 * 10001 := Nat.mul_le_mul m2 (by omega)
      show 2 * Pm.pot Pm.F0 (m * M + 1) m + 1 < fu
      unfold fu
      omega)
  obtain ⟨hs1, hs2⟩ := hs
  have hs1 : line = [] := hs1
  subst hs1
  refine ⟨F, hs2, ?_⟩
  have r2 := rep_one .non (n := m - 1) (by omega)
  have c2 := cat_le (xs := [.int 0]) (ys := List.replicate (m - 1) .non) (by simp) (by simp; omega)
  have b0 : D.int 0 :: List.replicate (m - 1) D.non = (List.range m).map fun a => oI (Pm.F0 a) := by
    apply List.ext_getElem
    · simp; omega
    · intro i h1 h2
      cases i with
      | zero => simp [Pm.F0]
      | succ i => simp [Pm.F0]
  have w : w2_first_paid.den (gOf g_first_paid) fv fu [.im (.lst (ls.map nI)), .im (nI m), .ow (D.int 0 :: List.replicate (m - 1) D.non), .ow [.int 0], .no, .no, .no, .no] = .nx [.im (.lst (ls.map nI)), .im (nI m), .ow ((List.range m).map fun a => oI (F a)), .ow [], .no, .no, .no, .no] := by
    unfold w2_first_paid
    rw [b0, ds_while]
    exact e
  have e3 : (m : Int) - 1 = ((m - 1 : Nat) : Int) := by omega
  rw [u_first_paid _ rfl]
  simp [b_first_paid, e3, r2, c2, w]
theorem v_gap_by (cs : List Nat) (h : Coins cs) (c0 l : Nat) (h0 : cs[0]? = some c0) (hl : cs.getLast? = some l) : ∃ o, Pm.GapIs cs o ∧ (∀ t, o = some t → t ≤ c0 * l) ∧ f_gap_by [.im (tI cs)] = .ok (.im (oI o)) [.no] := by
  have m0 : c0 ∈ cs := List.mem_of_getElem? h0
  have ml : l ∈ cs := List.mem_of_getLast? hl
  obtain ⟨c0', l', e0, el, _, _, le0, lel⟩ := coins_ends h
  rw [h0] at e0
  rw [hl] at el
  cases e0
  cases el
  have hg : 1 ≤ Pm.gcdL cs := Pm.gcdL_pos m0 (h.one c0 m0)
  have dv : ∀ c ∈ cs, Pm.gcdL cs ∣ c := fun c hc => Pm.gcdL_dvd hc
  generalize hG : Pm.gcdL cs = g at hg dv
  have hle : g ≤ 100 := Nat.le_trans (Nat.le_of_dvd (h.one c0 m0) (dv c0 m0)) (h.top c0 m0)
  have ecs : cs = (cs.map (· / g)).map (g * ·) := by
    rw [List.map_map]
    have : cs.map ((g * ·) ∘ (· / g)) = cs.map id := List.map_congr_left fun c hc => Nat.mul_div_cancel' (dv c hc)
    rw [this, List.map_id]
  have hz := h.le
  have hp := h.pos
  have big : 3 ≤ sizeLine := by decide
  have q1 : ∀ c ∈ cs.map (· / g), 1 ≤ c ∧ c ≤ 100 := fun c hc => by
    obtain ⟨d, hd, rfl⟩ := List.mem_map.mp hc
    exact ⟨Nat.div_pos (Nat.le_of_dvd (h.one d hd) (dv d hd)) (by omega), Nat.le_trans (Nat.div_le_self _ _) (h.top d hd)⟩
  have gl : Pm.gcdL (cs.map (· / g)) = 1 := by
    have e := Pm.gcdL_mul g (cs.map (· / g))
    rw [← ecs, hG] at e
    exact (Nat.eq_of_mul_eq_mul_left (show 0 < g from hg) (show g * 1 = g * _ by rw [Nat.mul_one]; exact e)).symm
  have mm : c0 / g ∈ cs.map (· / g) := List.mem_map_of_mem m0
  have mpos := (q1 _ mm).1
  obtain ⟨F, hF, e1⟩ := v_first_paid (cs.map (· / g)) (c0 / g) mm q1 gl (l / g) (fun c hc => by
    obtain ⟨d, hd, rfl⟩ := List.mem_map.mp hc
    exact Nat.div_le_div_right (lel d hd)) (Nat.le_trans (Nat.div_le_self _ _) (h.top l ml))
  have eF : ((List.range (c0 / g)).map fun a => oI (F a)) = ((List.range (c0 / g)).map fun a => (F a).getD 0).map nI := by
    rw [List.map_map]
    refine rng_congr fun a ha => ?_
    obtain ⟨w, hw, _⟩ := hF.all a ha
    rw [hw]
    show _ = nI ((F a).getD 0)
    rw [hw]
    rfl
  obtain ⟨x, x1, x2, x3⟩ := f_max_nI ((List.range (c0 / g)).map fun a => (F a).getD 0) (by
    intro z
    have := congrArg List.length z
    rw [List.length_map, List.length_range, List.length_nil] at this
    omega)
  obtain ⟨r, hr, er⟩ := List.mem_map.mp x1
  have hr : r < c0 / g := by simpa using hr
  obtain ⟨w, hw, _⟩ := hF.all r hr
  rw [hw] at er
  have er : w = x := er
  subst er
  obtain ⟨k1, k2⟩ := hF.gap mm mpos gl hr hw fun s u hs hu => by
    have := x2 ((F s).getD 0) (List.mem_map_of_mem (by simpa using hs))
    rw [hu] at this
    exact this
  have k3 := Pm.GapIs.mul (g := g) hg k1
  rw [← ecs] at k3
  refine ⟨_, k3, fun t ht => ?_, ?_⟩
  · by_cases q : c0 / g < w
    · rw [if_pos q] at ht
      have ht : g * (w - c0 / g) = t := by simpa using ht
      have := k2 q
      have a1 : w - c0 / g ≤ (c0 / g) * (l / g) := by
        have := Nat.mul_le_mul_right (l / g) (show c0 / g - 1 ≤ c0 / g by omega)
        omega
      have a2 := Nat.mul_le_mul_left g a1
      have a3 : g * (c0 / g * (l / g)) ≤ c0 * l := by
        rw [← Nat.mul_assoc, Nat.mul_div_cancel' (dv c0 m0)]
        exact Nat.mul_le_mul_left c0 (Nat.div_le_self _ _)
      omega
    · rw [if_neg q] at ht
      cases ht
  · have s2 : c1_gap_by.den (gOf g_gap_by) fv [.im (tI cs), .im (nI g), .no, .no, .no] = .ok (.nw ((cs.map (· / g)).map nI)) [.im (tI cs), .im (nI g), .no, .no, .no] := by
      unfold c1_gap_by
      rw [dn_comp, comp_map nI (fun _ => true) (fun c => nI (c / g)) cs (ρ1 := [.im (tI cs), .im (nI g), .no, .no, .no]) (by simp) (by simp [noOwn]) (by omega), List.map_map, List.filter_eq_self.mpr (by simp)]
      · rfl
      · intro c hc
        have p1 : 0 < g := hg
        have p2 : (g : Int) < 1073741824 := by omega
        have p3 : g < 1073741824 := by omega
        exact ⟨[.im (tI cs), .im (nI g), .no, .no, .im (nI c)], by simp, by simp, fun _ => by simp [p1, p2, p3], by simp⟩
    have c := v_common_of cs
    rw [hG] at c
    have a0 : atI ((cs.map (· / g)).map nI) 0 = some (nI (c0 / g)) := by
      have hx : 0 < (cs.map (· / g)).length := by rw [List.length_map]; omega
      have := at_map (f := nI) hx
      have e : (cs.map (· / g))[0] = c0 / g := by
        rw [List.getElem_map]
        rw [List.getElem?_eq_getElem (by omega)] at h0
        rw [Option.some.inj h0]
      rw [e] at this
      exact this
    rw [eF] at e1
    generalize ((List.range (c0 / g)).map fun a => (F a).getD 0).map nI = FL at e1 x3
    generalize (cs.map (· / g)).map nI = LS at s2 a0 e1
    have x3 : Bf.max1.den [.lst FL] = some (.im (nI w)) := x3
    rw [u_gap_by _ rfl]
    by_cases q : c0 / g < w
    · rw [if_pos q]
      have e5 : (w : Int) - ((c0 / g : Nat) : Int) = ((w - c0 / g : Nat) : Int) := by omega
      have e6 : (0 : Int) < ((w - c0 / g : Nat) : Int) := by omega
      have e7 : oI ((some (w - c0 / g)).map (g * ·)) = D.int (((w - c0 / g : Nat) : Int) * (g : Int)) := by
        show D.int _ = D.int _
        congr 1
        rw [Int.natCast_mul, Int.mul_comm]
      have e8 : ((w - c0 / g : Nat) : Int) < 2 ^ 64 := by
        have := k2 q
        have : (c0 / g - 1) * (l / g) ≤ 100 * 100 := Nat.mul_le_mul (by have := (q1 _ mm).2; omega) (Nat.le_trans (Nat.div_le_self _ _) (h.top l ml))
        omega
      have e9 : (g : Int) < 18446744073709551616 := by omega
      have e10 : (-18446744073709551616 : Int) < (g : Int) := by omega
      rw [e7]
      have p : ∀ A : Nat, nI A = D.int (A : Int) := fun _ => rfl
      simp only [p] at *
      generalize (w - c0 / g) = A at *
      generalize (c0 / g) = m at *
      have e6' : 0 < A := by omega
      simp [b_gap_by, s1_gap_by, s2_gap_by, s3_gap_by, s4_gap_by, gOf, c, s2, a0, e1, x3, e5, e6', e9, e10]
    · rw [if_neg q]
      have e6 : ¬ (0 : Int) < (w : Int) - ((c0 / g : Nat) : Int) := by omega
      have p : ∀ A : Nat, nI A = D.int (A : Int) := fun _ => rfl
      simp only [p] at *
      generalize (c0 / g) = m at *
      have e7 : ¬ m < w := q
      simp [b_gap_by, s1_gap_by, s2_gap_by, s3_gap_by, s4_gap_by, gOf, c, s2, a0, e1, x3, e6, e7]
theorem v_last_gap (cs : List Nat) (h : Coins cs) (c0 l : Nat) (h0 : cs[0]? = some c0) (hl : cs.getLast? = some l) : ∃ o, Pm.GapIs cs o ∧ (∀ t, o = some t → t ≤ c0 * l) ∧ f_last_gap [.im (tI cs)] = .ok (.im (oI o)) [.no] := by
  obtain ⟨o, k1, k2, e⟩ := v_gap_by cs h c0 l h0 hl
  refine ⟨o, k1, k2, ?_⟩
  rw [u_last_gap _ rfl]
  simp [b_last_gap, gOf, v_check_coins cs h, e]
end K69
namespace K69
open PySem PySem.Spec PyProof.Rows L2 Pu
def rests (p : List Nat) (a : Nat) : Nat := p.foldl (· % ·) a
theorem gR_snoc (x : Nat) : ∀ (p : List Nat) (a : Nat), Pm.gR (p ++ [x]) a = Pm.gR p a + rests p a / x
  | [], a => by
    show a / x + 0 = 0 + a / x
    omega
  | c :: p, a => by
    rw [List.cons_append, Pm.gR, Pm.gR, gR_snoc x p]
    show _ = a / c + Pm.gR p (a % c) + rests p (a % c) / x
    omega
theorem rests_snoc (p : List Nat) (x a : Nat) : rests (p ++ [x]) a = rests p a % x := by
  unfold rests
  rw [List.foldl_append]
  rfl
def quots : List Nat → Nat → List Nat
  | [], _ => []
  | c :: r, a => a / c :: quots r (a % c)
theorem quots_snoc (x : Nat) : ∀ (p : List Nat) (a : Nat), quots (p ++ [x]) a = quots p a ++ [rests p a / x]
  | [], a => rfl
  | c :: p, a => by
    rw [List.cons_append, quots, quots, quots_snoc x p]
    rfl
theorem quots_sum : ∀ (p : List Nat) (a : Nat), (quots p a).sum = Pm.gR p a
  | [], a => rfl
  | c :: p, a => by rw [quots, List.sum_cons, quots_sum p, Pm.gR]
theorem quots_len : ∀ (p : List Nat) (a : Nat), (quots p a).length = p.length
  | [], a => rfl
  | c :: p, a => by rw [quots, List.length_cons, quots_len p, List.length_cons]
theorem v_greedy_many (cs : List Nat) (a : Nat) (h1 : ∀ c ∈ cs, 1 ≤ c ∧ c ≤ 100) : f_greedy_many [.im (tI cs), .im (nI a)] = .ok (.im (nI (Pm.gre cs a))) [.no, .no] := by
  have lp := for_pre0 (g := fun d => Tg.den (gOf g_greedy_many) fv (.nm 3) (.im d)) (b := l1_greedy_many.den (gOf g_greedy_many) fv fu) nI (fun p => [.im (tI cs), .im (nI (rests p a)), .im (nI (Pm.gR p a)), .no, .no]) cs.reverse rfl fun p x q e => by
    have hx := h1 x (by rw [← List.mem_reverse, e]; simp)
    have p1 : 0 < x := by omega
    have p2 : (x : Int) < 1073741824 := by omega
    rw [rests_snoc, gR_snoc]
    simp [l1_greedy_many, p1, p2]
  have r := rev_nI cs
  have w : w1_greedy_many.den (gOf g_greedy_many) fv fu [.im (tI cs), .im (nI a), .im (.int 0), .no, .no] = .nx [.im (tI cs), .im (nI (rests cs.reverse a)), .im (nI (Pm.gre cs a)), .no, .no] := by
    unfold w1_greedy_many
    rw [ds_for]
    have lp : forL (fun d => Tg.den (gOf g_greedy_many) fv (.nm 3) (.im d)) (l1_greedy_many.den (gOf g_greedy_many) fv fu) (cs.reverse.map nI) [.im (tI cs), .im (nI a), .im (.int 0), .no, .no] = _ := lp
    simp only [dn_seq, dn_rev, dn_v, rd_ap, mbind_ap, fz_ap, bd_ok, rv_im, List.getElem?_cons_zero, rdS_im, r, mret_ap, mopt_some, sq_t, tf_ok]
    exact lp
  rw [u_greedy_many _ rfl]
  simp [b_greedy_many, w]
theorem v_law_greedily (cs : List Nat) (a : Nat) (h1 : ∀ c ∈ cs, 1 ≤ c ∧ c ≤ 100) (hz : cs.length ≤ 3) : f_law_greedily [.im (tI cs), .im (nI a)] = .ok (.im (.tup ((quots cs.reverse a).reverse.map nI))) [.no, .no] := by
  have big : 10 ≤ sizeLine := by decide
  have lp := for_pre0 (g := fun d => Tg.den (gOf g_law_greedily) fv (.nm 3) (.im d)) (b := l1_law_greedily.den (gOf g_law_greedily) fv fu) nI (fun p => [.im (tI cs), .im (nI (rests p a)), .ow ((quots p a).map nI), .no]) cs.reverse rfl fun p x q e => by
    have hx := h1 x (by rw [← List.mem_reverse, e]; simp)
    have p1 : 0 < x := by omega
    have p2 : (x : Int) < 1073741824 := by omega
    have p3 : ((quots p a).map nI).length < sizeLine := by
      rw [List.length_map, quots_len]
      have := congrArg List.length e
      rw [List.length_reverse, List.length_append] at this
      omega
    have b1 : (-18446744073709551616 : Int) < (x : Int) := by omega
    have b2 : (x : Int) < 18446744073709551616 := by omega
    have b3 : x < 18446744073709551616 := by omega
    have e5 : D.int ((rests p a : Int) - (rests p a : Int) / (x : Int) * (x : Int)) = nI (rests p a % x) := by
      show D.int _ = D.int _
      congr 1
      rw [Int.natCast_emod, Int.emod_def, Int.mul_comm]
    rw [rests_snoc, quots_snoc, List.map_append, List.map_cons, List.map_nil, ← e5]
    generalize (quots p a).map nI = QL at p3 ⊢
    simp [l1_law_greedily, p1, p2, p3, b1, b2, b3]
  have r := rev_nI cs
  have w : w1_law_greedily.den (gOf g_law_greedily) fv fu [.im (tI cs), .im (nI a), .ow [], .no] = .nx [.im (tI cs), .im (nI (rests cs.reverse a)), .ow ((quots cs.reverse a).map nI), .no] := by
    unfold w1_law_greedily
    rw [ds_for]
    have lp : forL (fun d => Tg.den (gOf g_law_greedily) fv (.nm 3) (.im d)) (l1_law_greedily.den (gOf g_law_greedily) fv fu) (cs.reverse.map nI) [.im (tI cs), .im (nI a), .ow [], .no] = _ := lp
    simp only [dn_seq, dn_rev, dn_v, rd_ap, mbind_ap, fz_ap, bd_ok, rv_im, List.getElem?_cons_zero, rdS_im, r, mret_ap, mopt_some, sq_t, tf_ok]
    exact lp
  have rl := rev_lI (quots cs.reverse a)
  generalize quots cs.reverse a = Q at w rl ⊢
  generalize Q.map nI = QL at w rl
  generalize Q.reverse.map nI = RL at rl ⊢
  rw [u_law_greedily _ rfl]
  simp [b_law_greedily, w, rl]
theorem greedily_sum (cs : List Nat) (a : Nat) : Bf.sum.den [.tup ((quots cs.reverse a).reverse.map nI)] = some (.im (nI (Pm.gre cs a))) := by
  rw [f_sum_tI, List.sum_reverse, quots_sum]
  rfl
/-- with 1 first, rising -/
structure One (cs : List Nat) : Prop where
  h : Coins cs
  r : ∃ r, cs = 1 :: r
def top2 (cs : List Nat) : Nat := (cs.drop (cs.length - 2)).sum
theorem One.shape {cs : List Nat} (o : One cs) : cs = [1] ∨ (∃ b, cs = [1, b] ∧ 1 < b ∧ b ≤ 100) ∨ ∃ b c, cs = [1, b, c] ∧ 1 < b ∧ b < c ∧ c ≤ 100 := by
  obtain ⟨r, e⟩ := o.r
  have hz := o.h.le
  have hu := o.h.up
  have ht := o.h.top
  subst e
  match r, hz, hu, ht with
  | [], _, _, _ => exact .inl rfl
  | [b], _, hu, ht =>
    simp at hu ht
    exact .inr (.inl ⟨b, rfl, hu, ht⟩)
  | [b, c], _, hu, ht =>
    simp at hu ht
    exact .inr (.inr ⟨b, c, rfl, hu.1.1, hu.2, ht.2⟩)
  | _ :: _ :: _ :: _, hz, _, _ => simp at hz
theorem One.few {cs : List Nat} (o : One cs) (a : Nat) : ∃ k, Pm.few cs a = some k ∧ (Pm.Fault cs a ↔ k < Pm.gre cs a) := by
  obtain ⟨r, e⟩ := o.r
  have hp := Pm.gre_pay r a
  rw [← e] at hp
  obtain ⟨k, h1, _⟩ := Pm.few_pay o.h.one hp
  exact ⟨k, h1, Pm.fault_few o.h.one h1⟩
theorem One.nofault {cs : List Nat} (o : One cs) {a : Nat} (h : ¬ Pm.Fault cs a) : Pm.few cs a = some (Pm.gre cs a) := by
  obtain ⟨r, e⟩ := o.r
  have h1 := o.h.one
  subst e
  exact Pm.few_of_no h1 h
theorem One.least {cs : List Nat} (o : One cs) {t : Nat} (h : Pm.Least cs t) : ∃ b c, cs = [1, b, c] ∧ 1 < b ∧ b < c ∧ c ≤ 100 ∧ t < c + b ∧ 1 ≤ t := by
  rcases o.shape with rfl | ⟨b, rfl, h1, h2⟩ | ⟨b, c, rfl, h1, h2, h3⟩
  · exact absurd h.1 (Pm.no_one t)
  · exact absurd h.1 (Pm.no_two (by omega) t)
  · refine ⟨b, c, rfl, h1, h2, h3, Pm.Least.below (r := [b]) (c := c) (e := b) (by simp; omega) h (by simp; omega), ?_⟩
    rcases Nat.eq_zero_or_pos t with z | z
    · subst z
      obtain ⟨k, _, l⟩ := h.1
      rw [Pm.gre_three] at l
      simp at l
    · exact z
theorem One.top {cs : List Nat} (o : One cs) : top2 cs ≤ 200 ∧ ∀ t, Pm.Least cs t → t < top2 cs + 1 := by
  refine ⟨?_, fun t ht => ?_⟩
  · rcases o.shape with rfl | ⟨b, rfl, h1, h2⟩ | ⟨b, c, rfl, h1, h2, h3⟩
    · decide
    · show (1 + (b + 0)) ≤ 200; omega
    · show (b + (c + 0)) ≤ 200; omega
  · obtain ⟨b, c, rfl, h1, h2, h3, h4, _⟩ := o.least ht
    show t < b + (c + 0) + 1
    omega
theorem v_fault_by (cs : List Nat) (o : One cs) : ∃ d, Pm.FaultIs cs d ∧ f_fault_by [.im (tI cs)] = .ok (.im (oI d)) [.no] := by
  obtain ⟨t1, t2⟩ := o.top
  have hz := o.h.le
  have e1 := cut_last2 (cs.map nI)
  rw [List.length_map, ← List.map_drop] at e1
  have e2 := f_sum_tI (cs.drop (cs.length - 2))
  have e2 : Bf.sum.den [.tup ((cs.drop (cs.length - 2)).map nI)] = some (.im (nI (top2 cs))) := e2
  generalize (cs.drop (cs.length - 2)).map nI = DL at e1 e2
  generalize top2 cs = T at t1 t2 e2
  have e3 := v_fewest_to cs T o.h.one hz (by omega)
  rw [List.map_map] at e3
  have a2 : ∀ a, a < T + 1 → atI ((List.range (T + 1)).map (oI ∘ Pm.few cs)) (a : Int) = some (oI (Pm.few cs a)) := fun a ha => at_rng (f := oI ∘ Pm.few cs) rfl ha
  generalize (List.range (T + 1)).map (oI ∘ Pm.few cs) = FL at e3 a2
  have st : ∀ k, k < T + 1 → ∃ m, Pm.few cs k = some m ∧ (Pm.Fault cs k ↔ m < Pm.gre cs k) := fun k _ => o.few k
  have flt : ∀ k, Pm.Fault cs k ↔ (Pm.few cs k).getD 0 < Pm.gre cs k := fun k => by
    obtain ⟨m, h1, h2⟩ := o.few k
    rw [h1]
    exact h2
  have body : ∀ k, k < T + 1 → ∀ F, F = Sl.ow FL ∨ F = .im (.lst FL) → l1_fault_by.den (gOf g_fault_by) fv fu [.im (tI cs), .im (nI T), F, .im (nI k)] =
      if ((Pm.few cs k).getD 0) < Pm.gre cs k then .rt (.im (nI k)) [.im (tI cs), .im (nI T), .im (.lst FL), .im (nI k)] else .nx [.im (tI cs), .im (nI T), .im (.lst FL), .no] := fun k hk F hF => by
    obtain ⟨m, h1, h2⟩ := o.few k
    have g := v_greedy_many cs k fun c hc => ⟨o.h.one c hc, o.h.top c hc⟩
    have a := a2 k hk
    rw [h1] at a ⊢
    simp at a
    show _ = if m < Pm.gre cs k then _ else _
    by_cases q : m < Pm.gre cs k
    · have q2 : (m : Int) < (Pm.gre cs k : Int) := by omega
      rw [if_pos q]
      rcases hF with rfl | rfl <;> simp [l1_fault_by, gOf, g, a, q, q2]
    · have q2 : ¬ (m : Int) < (Pm.gre cs k : Int) := by omega
      rw [if_neg q]
      rcases hF with rfl | rfl <;> simp [l1_fault_by, gOf, g, a, q, q2]
  have z0 : ¬ ((Pm.few cs 0).getD 0) < Pm.gre cs 0 := fun z => by
    have : Pm.gre cs 0 = 0 := Pm.gR_zero _
    omega
  have tg : ∀ (i : Int) F, (F = Sl.ow FL ∨ F = .im (.lst FL)) → toFl (Tg.den (gOf g_fault_by) fv (.nm 3) (.im (.int i)) [.im (tI cs), .im (nI T), F, .no]) (fun _ => l1_fault_by.den (gOf g_fault_by) fv fu) = l1_fault_by.den (gOf g_fault_by) fv fu [.im (tI cs), .im (nI T), F, .im (.int i)] := fun i F hF => by
    rcases hF with rfl | rfl <;> simp
  have b0 := body 0 (by omega) (.ow FL) (.inl rfl)
  rw [if_neg z0] at b0
  have r := r1S_nat (j := T + 1) (by omega)
  have r : r1S (.int ((T : Int) + 1)) = mret (rngL 0 (T + 1)) := r
  have key := for_find (g := fun d => Tg.den (gOf g_fault_by) fv (.nm 3) (.im d)) (b := l1_fault_by.den (gOf g_fault_by) fv fu) (ρ := [.im (tI cs), .im (nI T), .im (.lst FL), .no]) (fun k => decide ((Pm.few cs k).getD 0 < Pm.gre cs k)) (fun k => .im (nI k)) (fun k => [.im (tI cs), .im (nI T), .im (.lst FL), .im (nI k)]) T 1 1
    (fun k k1 hk q => by
      have e : (1 : Int) + ((k - 1 : Nat) : Int) = (k : Int) := by omega
      rw [e]
      exact (tg _ _ (.inr rfl)).trans ((body k (by omega) _ (.inr rfl)).trans (if_neg (of_decide_eq_false q))))
    (fun k k1 hk q => by
      have e : (1 : Int) + ((k - 1 : Nat) : Int) = (k : Int) := by omega
      rw [e]
      exact (tg _ _ (.inr rfl)).trans ((body k (by omega) _ (.inr rfl)).trans (if_pos (of_decide_eq_true q))))
  have fst : forL (fun d => Tg.den (gOf g_fault_by) fv (.nm 3) (.im d)) (l1_fault_by.den (gOf g_fault_by) fv fu) (rngL 0 (T + 1)) [.im (tI cs), .im (nI T), .ow FL, .no] = forL (fun d => Tg.den (gOf g_fault_by) fv (.nm 3) (.im d)) (l1_fault_by.den (gOf g_fault_by) fv fu) (rngL 1 T) [.im (tI cs), .im (nI T), .im (.lst FL), .no] := by
    rw [rngL_cons]
    exact for_one ((tg 0 (.ow FL) (.inl rfl)).trans b0)
  have w : ∀ fl, forL (fun d => Tg.den (gOf g_fault_by) fv (.nm 3) (.im d)) (l1_fault_by.den (gOf g_fault_by) fv fu) (rngL 1 T) [.im (tI cs), .im (nI T), .im (.lst FL), .no] = fl → w1_fault_by.den (gOf g_fault_by) fv fu [.im (tI cs), .im (nI T), .ow FL, .no] = fl := fun fl h => by
    rw [← h, ← fst]
    unfold w1_fault_by
    rw [ds_for]
    simp only [dn_r1, dn_b2, dn_v, dn_c, rd_ap, mbind_ap, fz_ap, mret_ap, bd_ok, rv_im, cn_i, List.getElem?_cons_zero, List.getElem?_cons_succ, rdS_im, b_add, mopt_some, r, tf_ok]
  rcases key with ⟨t, k1, k2, k3, k4, k5⟩ | ⟨k1, k2⟩
  · refine ⟨some t, Pm.faultIs_of t2 ⟨(flt t).mpr (of_decide_eq_true k3), fun b hb => fun f => ?_⟩, ?_⟩
    · have f := (flt b).mp f
      rcases Nat.eq_zero_or_pos b with z | z
      · subst z; exact z0 f
      · exact of_decide_eq_false (k4 b z hb) f
    · have w := w _ k5
      rw [u_fault_by _ rfl]
      simp [b_fault_by, e1, e2, gOf, e3, w]
  · refine ⟨none, Pm.faultIs_of t2 fun a ha f => ?_, ?_⟩
    · have f := (flt a).mp f
      rcases Nat.eq_zero_or_pos a with z | z
      · subst z; exact z0 f
      · exact of_decide_eq_false (k1 a z (by omega)) f
    · have w := w _ k2
      rw [u_fault_by _ rfl]
      simp [b_fault_by, e1, e2, gOf, e3, w]
end K69
namespace K69
open PySem PySem.Spec PyProof.Rows L2 Pu
theorem v_is_chain_by (cs : List Nat) (h1 : ∀ c ∈ cs, 1 ≤ c) (hz : cs.length ≤ 3) : f_is_chain_by [.im (tI cs)] = .ok (.im (.bl ((cs.zip (cs.drop 1)).all fun p => decide (p.2 % p.1 = 0)))) [.no] := by
  have big : 3 ≤ sizeLine := by decide
  have e : cutR (.tup (cs.map nI)) (some 1) none = some (.im (.tup ((cs.drop 1).map nI))) := by
    have := cut_drop (cs.map nI) 1
    rw [← List.map_drop] at this
    exact this
  have c1 : c1_is_chain_by.den (gOf g_is_chain_by) fv [.im (tI cs), .no, .no] = .ok (.nw (((cs.zip (cs.drop 1)).map fun p => decide (p.2 % p.1 = 0)).map D.bl)) [.im (tI cs), .no, .no] := by
    unfold c1_is_chain_by
    rw [dn_comp, comp_map (fun p : Nat × Nat => D.tup [nI p.1, nI p.2]) (fun _ => true) (fun p => D.bl (decide (p.2 % p.1 = 0))) (cs.zip (cs.drop 1)) (ρ1 := [.im (tI cs), .no, .no]) ?_ (by simp [noOwn]) (by rw [List.length_zip]; omega), List.map_map, List.filter_eq_self.mpr (by simp)]
    · rfl
    · intro p hp
      obtain ⟨x, y⟩ := p
      have hx := h1 x (List.of_mem_zip hp).1
      have q1 : 0 < x := by omega
      refine ⟨[.im (tI cs), .im (nI x), .im (nI y)], by simp, by simp, fun _ => ?_, by simp⟩
      by_cases z : y % x = 0
      · have z2 : (y : Int) % (x : Int) = 0 := by rw [← Int.natCast_emod, z]; rfl
        simp [q1, z, z2]
      · have z2 : ¬ (y : Int) % (x : Int) = 0 := by rw [← Int.natCast_emod]; omega
        simp [q1, z, z2]
    · rw [← zip_nI]
      simp only [dn_zip, dn_v, dn_slc, dn_oe1, dn_oe0, dn_c, mbind_ap, fz_ap, mret_ap, bd_ok, rv_im, cn_i, rd_ap, List.getElem?_cons_zero, rdS_im, oeS_i, e, mopt_some, zipS_t]
  have al := f_all_bl ((cs.zip (cs.drop 1)).map fun p => decide (p.2 % p.1 = 0))
  rw [List.all_map] at al
  generalize ((cs.zip (cs.drop 1)).map fun p => decide (p.2 % p.1 = 0)).map D.bl = BL at c1 al
  have al : Bf.all.den [D.lst BL] = some (Rv.im (D.bl ((cs.zip (cs.drop 1)).all fun p => decide (p.2 % p.1 = 0)))) := al
  generalize ((cs.zip (cs.drop 1)).all fun p => decide (p.2 % p.1 = 0)) = bb at al ⊢
  rw [u_is_chain_by _ rfl]
  simp [b_is_chain_by, c1, al]
theorem v_is_chain (cs : List Nat) (h : Coins cs) : f_is_chain [.im (tI cs)] = .ok (.im (.bl ((cs.zip (cs.drop 1)).all fun p => decide (p.2 % p.1 = 0)))) [.no] := by
  have e := v_is_chain_by cs h.one h.le
  generalize ((cs.zip (cs.drop 1)).all fun p => decide (p.2 % p.1 = 0)) = b at e ⊢
  rw [u_is_chain _ rfl]
  simp [b_is_chain, gOf, v_check_coins cs h, e]
end K69
namespace K69
open PySem PySem.Spec PyProof.Rows L2 Pu
theorem v_check_with_one (cs : List Nat) (o : One cs) : f_check_with_one [.im (tI cs)] = .ok (.im .non) [.no] := by
  have c0 : C2.nin.den (.int 1) (.tup (cs.map nI)) = some false := by
    obtain ⟨r, rfl⟩ := o.r
    have h1 : ((1 :: r).map nI).all D.flat = true := by simp [D.flat]
    have h2 : (((1 :: r).map nI).any fun y => y.feq (.int 1)) = true := by
      rw [List.any_eq_true]
      exact ⟨nI 1, by simp, rfl⟩
    show (if (D.int 1).flat = true ∧ ((1 :: r).map nI).all D.flat = true then some (!(((1 :: r).map nI).any fun y => y.feq (.int 1))) else none) = _
    rw [if_pos ⟨rfl, h1⟩, h2]
    rfl
  rw [u_check_with_one _ rfl]
  simp [b_check_with_one, gOf, v_check_coins cs o.h, c0]
theorem v_first_fault (cs : List Nat) (o : One cs) : ∃ d, Pm.FaultIs cs d ∧ f_first_fault [.im (tI cs)] = .ok (.im (oI d)) [.no] ∧ f_is_greedy [.im (tI cs)] = .ok (.im (.bl (decide (d = none)))) [.no] := by
  obtain ⟨d, h1, e⟩ := v_fault_by cs o
  have c := v_check_with_one cs o
  refine ⟨d, h1, ?_, ?_⟩
  · rw [u_first_fault _ rfl]
    simp [b_first_fault, gOf, c, e]
  · rw [u_is_greedy _ rfl]
    simp [b_is_greedy, gOf, c, e]
theorem cut_two (cs : List Nat) (hp : 1 ≤ cs.length) : cutR (.tup (cs.map nI)) none (some 2) = some (.im (.tup ((cs.take 2).map nI))) := by
  by_cases q : 2 ≤ cs.length
  · have := cut_pre (cs.map nI) 2 (by rw [List.length_map]; exact q)
    rw [← List.map_take] at this
    exact this
  · match cs, hp, q with
    | [a], _, _ => rfl
    | a :: b :: r, _, q => exact absurd (by simp) q
theorem v_law_with_one (B : List D) (top : Nat) (hB : Bag B) (h1 : 1 ≤ top) (h2 : top ≤ 100) : ∃ cs B', One cs ∧ Bag B' ∧ f_law_with_one [.io B, .im (nI top)] = .ok (.im (tI cs)) [.io B', .no] := by
  obtain ⟨cs, B', hd, hB', e⟩ := v_law_coins B top hB h1 (by omega)
  have m1 : 1 ∈ setN (1 :: cs.take 2) := setN_mem.mpr List.mem_cons_self
  have hu := setN_up (1 :: cs.take 2)
  have hone : ∀ c ∈ setN (1 :: cs.take 2), 1 ≤ c := fun c hc => by
    rcases List.mem_cons.mp (setN_mem.mp hc) with rfl | hc
    · omega
    · exact hd.one c (List.mem_of_mem_take hc)
  refine ⟨setN (1 :: cs.take 2), B', ⟨⟨hu, hone, fun c hc => ?_, List.length_pos_of_mem m1, ?_⟩, ?_⟩, hB', ?_⟩
  · rcases List.mem_cons.mp (setN_mem.mp hc) with rfl | hc
    · omega
    · have := hd.top c (List.mem_of_mem_take hc); omega
  · have := setN_len (1 :: cs.take 2)
    rw [List.length_cons, List.length_take] at this
    omega
  · cases q : setN (1 :: cs.take 2) with
    | nil => rw [q] at m1; cases m1
    | cons x r =>
      rw [q] at m1 hu hone
      rw [List.pairwise_cons] at hu
      rcases List.mem_cons.mp m1 with z | z
      · exact ⟨r, by rw [← z]⟩
      · have := hu.1 1 z
        have := hone x List.mem_cons_self
        omega
  · have ss := sset_nI (1 :: cs.take 2) (by rw [List.length_cons, List.length_take]; omega)
    have big : 20 ≤ sizeLine := by decide
    have ct := cut_two cs hd.pos
    have tt : B2.add.den (.tup [.int 1]) (.tup ((cs.take 2).map nI)) = some (.im (.tup ((1 :: cs.take 2).map nI))) := by
      show (if ([D.int 1] : List D).length + ((cs.take 2).map nI).length ≤ sizeLine then some (Rv.im (.tup ([.int 1] ++ (cs.take 2).map nI))) else none) = _
      rw [if_pos (by rw [List.length_map, List.length_take]; simp only [List.length_cons, List.length_nil]; omega)]
      rfl
    show _ = Res.ok (Rv.im (.tup ((setN (1 :: cs.take 2)).map nI))) _
    generalize (setN (1 :: cs.take 2)).map nI = SL at ss ⊢
    generalize (1 :: cs.take 2).map nI = TL at ss tt
    generalize (cs.take 2).map nI = CL at ct tt
    rw [u_law_with_one _ rfl]
    simp [b_law_with_one, gOf, e, ct, tt, ss]
end K69
namespace K69
open PySem PySem.Spec PyProof.Rows L2 Pu
abbrev GR : FT := gOf g_law_right
abbrev chk (cs : List Nat) : Bool := (cs.zip (cs.drop 1)).all fun p => decide (p.2 % p.1 = 0)
/-- a chain with 1 -/
def Ch (k : Nat) (xs : List Nat) : Prop := xs = [1] ∨ (1 ≤ k ∧ ∃ a, xs = [1, a] ∧ 1 < a ∧ a ≤ 100) ∨ (2 ≤ k ∧ ∃ a b, xs = [1, a, b] ∧ 1 < a ∧ a < b ∧ b ≤ 100 ∧ a ∣ b)
theorem Ch.one {k : Nat} {cs : List Nat} (h : Ch k cs) : One cs := by
  rcases h with rfl | ⟨_, a, rfl, h1, h2⟩ | ⟨_, a, b, rfl, h1, h2, h3, h4⟩
  · exact ⟨⟨by simp, by simp, by simp, by simp, by simp⟩, _, rfl⟩
  · exact ⟨⟨by simp; omega, by simp; omega, by simp; omega, by simp, by simp⟩, _, rfl⟩
  · exact ⟨⟨by simp; omega, by simp; omega, by simp; omega, by simp, by simp⟩, _, rfl⟩
theorem Ch.no {k : Nat} {cs : List Nat} (h : Ch k cs) (a : Nat) : ¬ Pm.Fault cs a := by
  rcases h with rfl | ⟨_, x, rfl, h1, h2⟩ | ⟨_, x, y, rfl, h1, h2, h3, h4⟩
  · exact Pm.no_one a
  · exact Pm.no_two (by omega) a
  · exact Pm.no_chain (by omega) (by omega) h4 a
theorem Ch.chk {k : Nat} {cs : List Nat} (h : Ch k cs) : chk cs = true := by
  rcases h with rfl | ⟨_, x, rfl, h1, h2⟩ | ⟨_, x, y, rfl, h1, h2, h3, h4⟩
  · rfl
  · simp [K69.chk, Nat.mod_one]
  · simp [K69.chk, Nat.mod_one, Nat.mod_eq_zero_of_dvd h4]
theorem v_law_chain (B : List D) (hB : Bag B) : ∃ cs B' k, Ch k cs ∧ Bag B' ∧ f_law_chain [.io B] = .ok (.im (tI cs)) [.io B'] := by
  obtain ⟨n, B1, hn, hB1, e1⟩ := v_law_take B 3 hB (by omega) (by omega)
  have e1 : f_law_take [.io B, .im (.int 3)] = .ok (.im (nI n)) [.io B1, .no] := e1
  obtain ⟨ρ', h3, B', xs, hB', hc, h4⟩ := for_rngI (g := fun d => Tg.den (gOf g_law_chain) fv (.nm 2) (.im d)) (b := l1_law_chain.den (gOf g_law_chain) fv fu)
    (fun k ρ => ∃ (B : List D) (xs : List Nat), Bag B ∧ Ch k xs ∧ ρ = [.io B, .ow (xs.map nI), .no, .no]) n 0 0 [.io B1, .ow [.int 1], .no, .no] (fun k ρ _ hk ⟨B, xs, hB, hc, e⟩ => by
      subst e
      obtain ⟨r, B', hr, hB', e⟩ := v_law_take B 5 hB (by omega) (by omega)
      have e : f_law_take [.io B, .im (.int 5)] = .ok (.im (nI r)) [.io B', .no] := e
      -- the last one
      obtain ⟨l, hl, hl2, up⟩ : ∃ l, atI (xs.map nI) (-1) = some (nI l) ∧ l ≤ 100 ∧ (l * (2 + r) ≤ 100 → Ch (k + 1) (xs ++ [l * (2 + r)])) := by
        rcases hc with rfl | ⟨hk1, a, rfl, h1, h2⟩ | ⟨hk2, a, b, rfl, h1, h2, h3, h4⟩
        · refine ⟨1, rfl, by omega, fun h => .inr (.inl ⟨by omega, 1 * (2 + r), rfl, by omega, h⟩)⟩
        · refine ⟨a, rfl, h2, fun h => .inr (.inr ⟨by omega, a, a * (2 + r), rfl, h1, ?_, h, Nat.dvd_mul_right _ _⟩)⟩
          have : a * 2 ≤ a * (2 + r) := Nat.mul_le_mul_left a (by omega)
          omega
        · omega
      have hm : Ch (k + 1) xs := by
        rcases hc with h | ⟨a, h⟩ | ⟨a, h⟩
        · exact .inl h
        · exact .inr (.inl ⟨by omega, h⟩)
        · exact .inr (.inr ⟨by omega, h⟩)
      have hz : xs.length ≤ 3 := hc.one.h.le
      have b1 : (-18446744073709551616 : Int) < (l : Int) := by omega
      have b2 : (l : Int) < 18446744073709551616 := by omega
      have b3 : l < 18446744073709551616 := by omega
      have eo : (l : Int) * (2 + (r : Int)) = ((l * (2 + r) : Nat) : Int) := by rw [Int.natCast_mul, Int.natCast_add]; rfl
      by_cases q : l * (2 + r) ≤ 100
      · refine ⟨_, ?_, B', xs ++ [l * (2 + r)], hB', up q, rfl⟩
        have c := cat_le (xs := xs.map nI) (ys := [D.int ((l * (2 + r) : Nat) : Int)]) (by simp; omega) (by simp)
        have q2 : (l : Int) * (2 + (r : Int)) ≤ 100 := by rw [eo]; omega
        rw [← eo] at c
        rw [List.map_append, List.map_cons, List.map_nil]
        show _ = Fl.nx [.io B', .ow (xs.map nI ++ [D.int ((l * (2 + r) : Nat) : Int)]), .no, .no]
        rw [← eo]
        generalize xs.map nI = XL at hl c ⊢
        simp [l1_law_chain, gOf, e, hl, b1, b2, b3, q2, c]
      · refine ⟨_, ?_, B', xs, hB', hm, rfl⟩
        have c := cat_le (xs := xs.map nI) (ys := []) (by simp; omega) (by simp)
        have q2 : ¬ (l : Int) * (2 + (r : Int)) ≤ 100 := by rw [eo]; omega
        rw [List.append_nil] at c
        generalize xs.map nI = XL at hl c ⊢
        simp [l1_law_chain, gOf, e, hl, b1, b2, b3, q2, c]) ⟨B1, [1], hB1, .inl rfl, rfl⟩
  subst h4
  refine ⟨xs, B', 0 + n, hc, hB', ?_⟩
  have w : w1_law_chain.den (gOf g_law_chain) fv fu [.io B, .ow [.int 1], .no, .no] = .nx [.io B', .ow (xs.map nI), .no, .no] := by
    unfold w1_law_chain
    rw [ds_for]
    simp at h3
    simp [gOf, e1, r1S_nat (j := n) (by omega), h3]
  rw [u_law_chain _ rfl]
  simp [b_law_chain, w]
abbrev st (B : List D) (coins turn other due amount more k : Sl) : Pu.Env := [.io B, coins, turn, other, due, amount, more, k]
theorem v_least_trap (cs : List Nat) (h : Coins cs) (hc : chk cs = true) : f_least_trap [.im (tI cs)] = .ok (.im .non) [.no] := by
  have e := v_is_chain_by cs h.one h.le
  have e : f_is_chain_by [.im (tI cs)] = .ok (.im (.bl (chk cs))) [.no] := e
  rw [hc] at e
  have e2 : f_least_trap_by [.im (tI cs)] = .ok (.im .non) [.no] := by
    rw [u_least_trap_by _ rfl]
    simp [b_least_trap_by, gOf, e]
  rw [u_least_trap _ rfl]
  simp [b_least_trap, gOf, v_check_coins cs h, e2]
theorem none_of {cs : List Nat} {d : Option Nat} (h : Pm.FaultIs cs d) (n : ∀ a, ¬ Pm.Fault cs a) : d = none := by
  cases d with
  | none => rfl
  | some t => exact absurd h.1 (n t)
section
variable (cs : List Nat) {kk : Nat} (h : Ch kk cs) (B : List D)
include h
theorem e_s2 : s2_law_right.den GR fv fu (st B (.im (tI cs)) .no .no .no .no .no .no) = .nx (st B (.im (tI cs)) .no .no .no .no .no .no) := by
  have o := h.one
  have e1 : f_is_chain [.im (tI cs)] = .ok (.im (.bl (chk cs))) [.no] := v_is_chain cs o.h
  rw [h.chk] at e1
  obtain ⟨d, hd, e3, e4⟩ := v_first_fault cs o
  have := none_of hd h.no
  subst this
  simp at e4
  simp [s2_law_right, gOf, e1, e4]
theorem e_s4 : s4_law_right.den GR fv fu (st B (.im (tI cs)) .no .no .no .no .no .no) = .nx (st B (.im (tI cs)) .no .no .no .no .no .no) := by
  have o := h.one
  obtain ⟨c0, l, h0, hl, _⟩ := coins_ends o.h
  have a1 := at_m1 (f := nI) hl
  have e := v_least_trap cs o.h h.chk
  by_cases q : l < 5
  · have q2 : (l : Int) < 5 := by omega
    simp [s4_law_right, gOf, a1, q, q2, e]
  · have q2 : ¬ (l : Int) < 5 := by omega
    simp [s4_law_right, gOf, a1, q, q2]
theorem e_s6 : s6_law_right.den GR fv fu (st B (.im (tI cs)) .no .no .no .no .no .no) = .nx (st B (.im (tI cs)) .no .no .no .no .no .no) := by
  have o := h.one
  obtain ⟨d, hd, e3, e4⟩ := v_first_fault cs o
  have := none_of hd h.no
  subst this
  obtain ⟨c0, l, h0, hl, _⟩ := coins_ends o.h
  obtain ⟨g, k1, k2, e⟩ := v_last_gap cs o.h c0 l h0 hl
  have : g = none := k1.uniq (Pm.gapIs_one (by obtain ⟨r, rfl⟩ := o.r; simp))
  subst this
  simp at e3 e
  simp [s6_law_right, gOf, e3, e]
theorem e_w2 (hB : Bag B) : ∃ B', Bag B' ∧ w2_law_right.den GR fv fu (st B (.im (tI cs)) .no .no .no .no .no .no) = .nx (st B' (.im (tI cs)) .no .no .no .no .no .no) := by
  have o := h.one
  obtain ⟨ρ', h3, B', hB', h4⟩ := for_holdM (g := fun d => Tg.den GR fv (.nm 2) (.im d)) (b := l2_law_right.den GR fv fu) (fun ρ => ∃ B, Bag B ∧ ρ = st B (.im (tI cs)) .no .no .no .no .no .no) (rngL 0 4) (st B (.im (tI cs)) .no .no .no .no .no .no) (fun d hd ρ ⟨B, hB, e⟩ => by
    subst e
    obtain ⟨a, B', ha, hB', e⟩ := v_law_take B 900 hB (by omega) (by omega)
    have e : f_law_take [.io B, .im (.int 900)] = .ok (.im (nI a)) [.io B', .no] := e
    have e1 := v_fewest_coins cs a o.h (by omega)
    rw [o.nofault (h.no a)] at e1
    have g := v_law_greedily cs a (fun c hc => ⟨o.h.one c hc, o.h.top c hc⟩) o.h.le
    have sm := greedily_sum cs a
    generalize (quots cs.reverse a).reverse.map nI = QL at g sm
    simp at e1
    refine ⟨st B' (.im (tI cs)) .no .no .no .no .no .no, ?_, B', hB', rfl⟩
    simp [l2_law_right, s9_law_right, s10_law_right, gOf, e, e1, g, sm]) ⟨B, hB, rfl⟩
  subst h4
  refine ⟨B', hB', ?_⟩
  have r := r1S_nat (j := 4) (by omega)
  unfold w2_law_right
  rw [ds_for]
  simp at r h3
  simp [r, h3]
end
def dues (cs : List Nat) : List Nat := ((List.range (cs.length - 1)).map (· + 1)).filter fun k => decide (cs.getD k 0 % cs.getD (k - 1) 0 ≠ 0)
theorem dues_chk {cs : List Nat} (o : One cs) : decide (dues cs = []) = chk cs := by
  rcases o.shape with rfl | ⟨b, rfl, h1, h2⟩ | ⟨b, c, rfl, h1, h2, h3⟩
  · rfl
  · simp [dues, chk, Nat.mod_one, List.range_succ]
  · by_cases q : c % b = 0
    · simp [dues, chk, Nat.mod_one, List.range_succ, q]
    · simp [dues, chk, Nat.mod_one, List.range_succ, q]
section
variable (cs : List Nat) (o : One cs) (B : List D) (coins : Sl)
include o
theorem e_c1 : c1_law_right.den GR fv (st B coins .no (.im (tI cs)) .no .no .no .no) = .ok (.nw ((dues cs).map nI)) (st B coins .no (.im (tI cs)) .no .no .no .no) := by
  have hp := o.h.pos
  have hz := o.h.le
  have big : 10 ≤ sizeLine := by decide
  have rng : rngL 1 (cs.length - 1) = ((List.range (cs.length - 1)).map (· + 1)).map nI := by
    unfold rngL
    rw [List.map_map]
    refine List.map_congr_left fun i _ => ?_
    show D.int (1 + (i : Int)) = D.int ((i + 1 : Nat) : Int)
    congr 1
    omega
  have r := r2S_nat (i := 1) (j := cs.length) (by omega) (by omega)
  have r : r2S (.int 1) (.int (cs.length : Int)) = mret (rngL 1 (cs.length - 1)) := r
  unfold c1_law_right dues
  rw [dn_comp, comp_map nI (fun k => decide (cs.getD k 0 % cs.getD (k - 1) 0 ≠ 0)) nI ((List.range (cs.length - 1)).map (· + 1)) (ρ1 := st B coins .no (.im (tI cs)) .no .no .no .no) ?_ (by simp [noOwn]) (by rw [List.length_map, List.length_range]; omega)]
  · intro k hk
    obtain ⟨i, hi, ek⟩ := List.mem_map.mp hk
    have ek : i + 1 = k := ek
    subst ek
    have hi := List.mem_range.mp hi
    have x1 : atI (cs.map nI) ((i + 1 : Nat) : Int) = some (nI (cs.getD (i + 1) 0)) := by
      rw [at_map (f := nI) (show i + 1 < cs.length by omega)]
      rw [List.getD_eq_getElem?_getD, List.getElem?_eq_getElem (show i + 1 < cs.length by omega)]
      rfl
    have x2 : atI (cs.map nI) (((i + 1 : Nat) : Int) - 1) = some (nI (cs.getD i 0)) := by
      rw [at_mapI (f := nI) (i := i) (by omega) (show i < cs.length by omega)]
      rw [List.getD_eq_getElem?_getD, List.getElem?_eq_getElem (show i < cs.length by omega)]
      rfl
    have p1 : 0 < cs.getD i 0 := by
      rw [List.getD_eq_getElem?_getD, List.getElem?_eq_getElem (show i < cs.length by omega)]
      exact o.h.one _ (List.getElem_mem _)
    rw [Nat.add_sub_cancel]
    generalize cs.getD (i + 1) 0 = X at x1 ⊢
    generalize cs.getD i 0 = Y at x2 p1 ⊢
    generalize i + 1 = j at x1 x2 ⊢
    refine ⟨st B coins .no (.im (tI cs)) .no .no .no (.im (nI j)), by simp, ?_, fun _ => by simp, by simp⟩
    by_cases q : X % Y = 0
    · have q2 : (X : Int) % (Y : Int) = 0 := by rw [← Int.natCast_emod, q]; rfl
      simp [x1, x2, p1, q, q2]
    · have q2 : ¬ (X : Int) % (Y : Int) = 0 := by rw [← Int.natCast_emod]; omega
      simp [x1, x2, p1, q, q2]
  · rw [← rng]
    simp only [dn_r2, dn_c, dn_bf, dn_es1, dn_es0, dn_v, mbind_ap, fz_ap, mret_ap, bd_ok, rv_im, cn_i, rd_ap, List.getElem?_cons_zero, List.getElem?_cons_succ, rdS_im, f_lent, mopt_some, List.length_map, r]
theorem e_s14 : ∃ F, s14_law_right.den GR fv fu (st B coins .no (.im (tI cs)) (.ow ((dues cs).map nI)) .no .no .no) = .nx (st B coins .no (.im (tI cs)) F .no .no .no) := by
  have e1 : f_is_chain [.im (tI cs)] = .ok (.im (.bl (chk cs))) [.no] := v_is_chain cs o.h
  have q : D.eq? (.lst ((dues cs).map nI)) (.lst []) = some (chk cs) := by
    have := eq_lI (dues cs) []
    rw [dues_chk o] at this
    exact this
  generalize chk cs = b at e1 q
  generalize (dues cs).map nI = DL at q ⊢
  exact ⟨_, by simp [s14_law_right, gOf, e1, q]; rfl⟩
theorem e_s16 (F : Sl) : s16_law_right.den GR fv fu (st B coins .no (.im (tI cs)) F .no .no .no) = .nx (st B coins .no (.im (tI cs)) F .no .no .no) := by
  have e1 : f_is_chain [.im (tI cs)] = .ok (.im (.bl (chk cs))) [.no] := v_is_chain cs o.h
  obtain ⟨d, hd, e3, e4⟩ := v_first_fault cs o
  have key : d ≠ none → chk cs = false := fun hn => by
    cases d with
    | none => exact absurd rfl hn
    | some t =>
      obtain ⟨b, c, rfl, h1, h2, h3, h4, _⟩ := o.least hd
      by_cases q : c % b = 0
      · exact absurd hd.1 (Pm.no_chain (by omega) (by omega) (Nat.dvd_of_mod_eq_zero q) t)
      · simp [chk, q]
  generalize chk cs = b at e1 key
  cases d with
  | none =>
    simp at e3
    simp [s16_law_right, gOf, e3]
  | some t =>
    have := key (by simp)
    subst this
    simp at e3
    simp [s16_law_right, gOf, e3, e1]
theorem e_s18 (F : Sl) (hB : Bag B) : ∃ B' c2 d2 m, Bag B' ∧ s18_law_right.den GR fv fu (st B coins .no (.im (tI cs)) F .no .no .no) = .nx (st B' c2 .no (.im (tI cs)) d2 .no m .no) := by
  rcases o.shape with rfl | ⟨b, rfl, h1, h2⟩ | ⟨b, c, rfl, h1, h2, h3⟩
  · exact ⟨B, coins, F, .no, hB, by simp [s18_law_right]⟩
  · by_cases q : b < 50
    · obtain ⟨r, B', hr, hB', e⟩ := v_law_take B 300 hB (by omega) (by omega)
      have e : f_law_take [.io B, .im (.int 300)] = .ok (.im (nI r)) [.io B', .no] := e
      have hm : Coins [1, b, 1 + b] := ⟨by simp; omega, by simp; omega, by simp; omega, by simp, by simp⟩
      have key : ∀ a, a ≤ 2000 → toFl ((Tg.nm 5).den GR fv (.im (nI a)) (st B' .no .no (.im (tI [1, b])) .no .no (.im (tI [1, b, 1 + b])) .no)) (fun _ => l1_law_right.den GR fv fu) = .nx (st B' .no .no (.im (tI [1, b])) .no .no (.im (tI [1, b, 1 + b])) .no) := fun a ha => by
        have f1 := v_fewest_coins [1, b] a o.h ha
        have f2 := v_fewest_coins [1, b, 1 + b] a hm ha
        obtain ⟨k, g1, _⟩ := o.few a
        obtain ⟨m, g2, g3⟩ := Pm.few_pay hm.one (((Pm.few_some o.h.one).mp g1).1.mono (ds := [1, b, 1 + b]) (by intro x hx; simp at hx ⊢; rcases hx with rfl | rfl <;> simp))
        rw [g1] at f1
        rw [g2] at f2
        have q1 : ¬ ((k : Int) < (m : Int)) := by omega
        have q2 : ¬ k < m := by omega
        generalize tI [1, b] = C1 at f1 ⊢
        generalize tI [1, b, 1 + b] = C2 at f2 ⊢
        simp at f1 f2
        simp [l1_law_right, s21_law_right, gOf, f1, f2, q1, q2]
      have k1 := key r (by omega)
      have k2 := key (b + 1) (by omega)
      have lp : forL (fun d => (Tg.nm 5).den GR fv (.im d)) (l1_law_right.den GR fv fu) [nI r, nI (b + 1)] (st B' .no .no (.im (tI [1, b])) .no .no (.im (tI [1, b, 1 + b])) .no) = .nx (st B' .no .no (.im (tI [1, b])) .no .no (.im (tI [1, b, 1 + b])) .no) := by
        rw [for_one k1, for_one k2, for_nil]
      have e5 : nI (b + 1) = D.int ((b : Int) + 1) := by show D.int _ = D.int _; congr 1
      have e6 : tI [1, b, 1 + b] = D.tup [.int 1, .int (b : Int), .int (1 + (b : Int))] := by
        show D.tup [nI 1, nI b, nI (1 + b)] = _
        have : nI (1 + b) = D.int (1 + (b : Int)) := by show D.int _ = D.int _; congr 1
        rw [this]
        rfl
      have e7 : tI [1, b] = D.tup [.int 1, .int (b : Int)] := rfl
      rw [e5, e6, e7] at lp
      refine ⟨B', .no, .no, .im (tI [1, b, 1 + b]), hB', ?_⟩
      rw [e6, e7]
      have q2 : (b : Int) < 50 := by omega
      have a0 : atI [D.int 1, D.int (b : Int)] 0 = some (.int 1) := rfl
      have a1 : atI [D.int 1, D.int (b : Int)] 1 = some (.int (b : Int)) := rfl
      have a2 : atI [D.int 1, D.int (b : Int)] (-1) = some (.int (b : Int)) := rfl
      have w : w1_law_right.den GR fv fu [.io B, .no, .no, .im (.tup [.int 1, .int (b : Int)]), .no, .no, .im (.tup [.int 1, .int (b : Int), .int (1 + (b : Int))]), .no] = .nx [.io B', .no, .no, .im (.tup [.int 1, .int (b : Int)]), .no, .no, .im (.tup [.int 1, .int (b : Int), .int (1 + (b : Int))]), .no] := by
        unfold w1_law_right
        rw [ds_for]
        simp only [st] at lp
        simp at lp
        simp [gOf, e, a1, lp]
      simp [s18_law_right, s19_law_right, gOf, a0, a1, a2, q, q2, w]
    · have q2 : ¬ (b : Int) < 50 := by omega
      have a2 : atI ([1, b].map nI) (-1) = some (nI b) := rfl
      have ln : ([1, b].map nI).length = 2 := rfl
      refine ⟨B, coins, F, .no, hB, ?_⟩
      show s18_law_right.den GR fv fu [.io B, coins, .no, .im (.tup ([1, b].map nI)), F, .no, .no, .no] = .nx [.io B, coins, .no, .im (.tup ([1, b].map nI)), F, .no, .no, .no]
      generalize [1, b].map nI = CL at a2 ln ⊢
      simp [s18_law_right, a2, ln, q, q2]
  · exact ⟨B, coins, F, .no, hB, by simp [s18_law_right]⟩
end
theorem v_law_right (B : List D) (hB : Bag B) : ∃ B', Bag B' ∧ f_law_right [.io B] = .ok (.im (.bl true)) [.io B'] := by
  obtain ⟨cs, B1, kk, hc, hB1, e1⟩ := v_law_chain B hB
  obtain ⟨B2, hB2, xw⟩ := e_w2 cs hc B1 hB1
  obtain ⟨os, B3, o, hB3, e3⟩ := v_law_with_one B2 40 hB2 (by omega) (by omega)
  have e3 : f_law_with_one [.io B2, .im (.int 40)] = .ok (.im (tI os)) [.io B3, .no] := e3
  have x2 := e_s2 cs hc B1
  have x4 := e_s4 cs hc B1
  have x6 := e_s6 cs hc B1
  have xc := e_c1 os o B3 (.im (tI cs))
  obtain ⟨F, x14⟩ := e_s14 os o B3 (.im (tI cs))
  have x16 := e_s16 os o B3 (.im (tI cs)) F
  obtain ⟨B4, c2, d2, m, hB4, x18⟩ := e_s18 os o B3 (.im (tI cs)) F hB3
  refine ⟨B4, hB4, ?_⟩
  simp only [st] at x2 x4 x6 xw xc x14 x16 x18
  rw [u_law_right _ rfl]
  simp [b_law_right, s1_law_right, s12_law_right, s13_law_right, gOf, e1, e3, x2, x4, x6, xw, xc, x14, x16, x18]
end K69
namespace K69
open PySem PySem.Spec PyProof.Rows L2 Pu
def laps : Nat := 8
end K69
namespace K69
open PySem PySem.Spec PyProof.Rows L2 Pu
theorem law_ok (ns : List Int) (hn : ns.length ≤ 63) : ∃ outs, Ss.fn (gOf phs) fv fu 1 n_law.length b_law [.im (.rol (ns.map D.int))] = .ok (.im (.bl true)) outs := by
  refine ⟨[.no], ?_⟩
  have c1 : ∀ (lap : Nat) (B : List D), Bag B → ∃ B', c1_law.den (gOf g_law) fv [.im (.rol (ns.map D.int)), .im (nI lap), .ow B, .no] = .ok (.nw (List.replicate laps (.bl true))) [.im (.rol (ns.map D.int)), .im (nI lap), .ow B', .no] := fun lap B hB => by
    have r := r1S_nat (j := laps) (by decide)
    simp [laps] at r
    obtain ⟨ρ', h1, B', s, _, h2⟩ := comp_hold (m := (It.r1 (.c (.int laps))).den (gOf g_law) fv) (g := fun d => Tg.den (gOf g_law) fv (.nm 3) (.im d)) (t := Ts.nil.allD (gOf g_law) fv) (e := fz ((E.call i_law_right (.io 2 .nil)).den (gOf g_law) fv)) (vs := [3]) (ρ := [.im (.rol (ns.map D.int)), .im (nI lap), .ow B, .no]) (ρ1 := [.im (.rol (ns.map D.int)), .im (nI lap), .ow B, .no]) (ds := rngL 0 laps)
      (fun ρ => ∃ B s, Bag B ∧ ρ = [.im (.rol (ns.map D.int)), .im (nI lap), .ow B, s]) (.bl true) (by simp [laps, r]) (by simp [noOwn]) (by simp [rngL, laps]) ⟨B, .no, hB, rfl⟩ (fun d hd ρ ⟨B, s, hB, e⟩ => by
        subst e
        obtain ⟨B', hB', e⟩ := v_law_right B hB
        exact ⟨[.im (.rol (ns.map D.int)), .im (nI lap), .ow B, .im d], [.im (.rol (ns.map D.int)), .im (nI lap), .ow B, .im d], [.im (.rol (ns.map D.int)), .im (nI lap), .ow B', .im d], by simp, by simp, by simp [gOf, e], B', .im d, hB', rfl⟩)
    subst h2
    refine ⟨B', ?_⟩
    unfold c1_law
    rw [dn_comp]
    refine h1.trans ?_
    rfl
  have w : ∀ m : Nat, m ≤ 100 → forL (fun d => Tg.den (gOf g_law) fv (.nm 1) (.im d)) (l1_law.den (gOf g_law) fv fu) (rngL 0 m) [.im (.rol (ns.map D.int)), .no, .no, .no] = .nx [.im (.rol (ns.map D.int)), .no, .no, .no] := fun m hm => by
    refine for_rng (S := fun _ => [.im (.rol (ns.map D.int)), .no, .no, .no]) rfl fun k hk => ?_
    obtain ⟨B, hB, e1⟩ := v_law_bag ns k
    obtain ⟨B', e2⟩ := c1 k B hB
    have al : Bf.all.den [.lst (List.replicate laps (.bl true))] = some (.im (.bl true)) := rfl
    try simp at e1
    generalize List.replicate laps (D.bl true) = RL at e2 al
    try simp at e2
    simp [l1_law, gOf, e1, e2, al]
  have key : ∃ m : Nat, m ≤ 100 ∧ E.den (gOf g_law) fv (.bf .max2 (.cons (.c (.int 2)) (.cons (.bf .min2 (.cons (.bf .len (.cons (.v 0) .nil)) (.cons (.c (.int 3)) .nil))) .nil))) [.im (.rol (ns.map D.int)), .no, .no, .no] = .ok (.im (nI m)) [.im (.rol (ns.map D.int)), .no, .no, .no] := by
    refine ⟨max 2 (min ns.length 3), by omega, ?_⟩
    simp
    split <;> split <;> omega
  obtain ⟨m, hm, e⟩ := key
  have w1 : w1_law.den (gOf g_law) fv fu [.im (.rol (ns.map D.int)), .no, .no, .no] = .nx [.im (.rol (ns.map D.int)), .no, .no, .no] := by
    unfold w1_law
    rw [ds_for, dn_r1]
    simp only [mbind_ap, fz_ap, e, bd_ok, mret_ap, rv_im, r1S_nat (show m ≤ 1000000000 by omega), tf_ok]
    exact w m hm
  have hf := fn_ap (G := gOf phs) (W := fv) (fu := fu) (n := 1) (N := n_law.length) (b := b_law) (args := [.im (.rol (ns.map D.int))]) rfl
  rw [hf]
  show ((b_law.den (gOf g_law) fv fu [.im (.rol (ns.map D.int)), .no, .no, .no]).fn [.im (.rol (ns.map D.int))]) = _
  simp [b_law, w1]
end K69

namespace K69
open PySem PySem.Spec PyProof.Rows L2 Pu
def fas (f0 f1 f2 f3 f4 f5 f6 f7 f8 f9 f10 f11 f12 f13 f14 f15 f16 f17 f18 f19 f20 f21 f22 f23 f24 f25 f26 f27 f28 f29 f30 f31 f32 f33 f34 f35 f36 f37 f38 : Addr) : Nat → Option Addr := fun k => [f0, f1, f2, f3, f4, f5, f6, f7, f8, f9, f10, f11, f12, f13, f14, f15, f16, f17, f18, f19, f20, f21, f22, f23, f24, f25, f26, f27, f28, f29, f30, f31, f32, f33, f34, f35, f36, f37, f38][k]?
theorem facts {P : Program} {w : World} {K : PySem.W.Frag} {h : Heap} {mg : Str → Option Value} {fa : Addr} (X : K.In h) (G : h.Ns mainGlobals mg) (hfa : mg "law" = some (.ref fa))
    {f0 : Addr} {od0 an0 : Option Addr} {sl0 : Array (Option Value)} {oc0 kV0 dc0 pm0 cd0 ct0 : Value}
    (a0 : PySem.W.nsIn K mainGlobals "is_whole" = some (some (.ref f0))) (l0 : K.lookup f0 = some ⟨oc0, od0, .func (PySem.W.fnOf "is_whole" "is_whole" (defArgs s_is_whole) (defBody s_is_whole) (defScope s_is_whole) .none kV0 dc0 pm0 an0 cd0 ct0), sl0⟩) (c0 : PySem.W.codeIn K cd0 "is_whole" = true) (k0 : PySem.W.keepIn K (.ref f0) = true)
    {f1 : Addr} {od1 an1 : Option Addr} {sl1 : Array (Option Value)} {oc1 kV1 dc1 pm1 cd1 ct1 : Value}
    (a1 : PySem.W.nsIn K mainGlobals "is_between" = some (some (.ref f1))) (l1 : K.lookup f1 = some ⟨oc1, od1, .func (PySem.W.fnOf "is_between" "is_between" (defArgs s_is_between) (defBody s_is_between) (defScope s_is_between) .none kV1 dc1 pm1 an1 cd1 ct1), sl1⟩) (c1 : PySem.W.codeIn K cd1 "is_between" = true) (k1 : PySem.W.keepIn K (.ref f1) = true)
    {f2 : Addr} {od2 an2 : Option Addr} {sl2 : Array (Option Value)} {oc2 kV2 dc2 pm2 cd2 ct2 : Value}
    (a2 : PySem.W.nsIn K mainGlobals "is_row" = some (some (.ref f2))) (l2 : K.lookup f2 = some ⟨oc2, od2, .func (PySem.W.fnOf "is_row" "is_row" (defArgs s_is_row) (defBody s_is_row) (defScope s_is_row) .none kV2 dc2 pm2 an2 cd2 ct2), sl2⟩) (c2 : PySem.W.codeIn K cd2 "is_row" = true) (k2 : PySem.W.keepIn K (.ref f2) = true)
    {f3 : Addr} {od3 an3 : Option Addr} {sl3 : Array (Option Value)} {oc3 kV3 dc3 pm3 cd3 ct3 : Value}
    (a3 : PySem.W.nsIn K mainGlobals "is_coin_behind" = some (some (.ref f3))) (l3 : K.lookup f3 = some ⟨oc3, od3, .func (PySem.W.fnOf "is_coin_behind" "is_coin_behind" (defArgs s_is_coin_behind) (defBody s_is_coin_behind) (defScope s_is_coin_behind) .none kV3 dc3 pm3 an3 cd3 ct3), sl3⟩) (c3 : PySem.W.codeIn K cd3 "is_coin_behind" = true) (k3 : PySem.W.keepIn K (.ref f3) = true)
    {f4 : Addr} {od4 an4 : Option Addr} {sl4 : Array (Option Value)} {oc4 kV4 dc4 pm4 cd4 ct4 : Value}
    (a4 : PySem.W.nsIn K mainGlobals "first_wrong" = some (some (.ref f4))) (l4 : K.lookup f4 = some ⟨oc4, od4, .func (PySem.W.fnOf "first_wrong" "first_wrong" (defArgs s_first_wrong) (defBody s_first_wrong) (defScope s_first_wrong) .none kV4 dc4 pm4 an4 cd4 ct4), sl4⟩) (c4 : PySem.W.codeIn K cd4 "first_wrong" = true) (k4 : PySem.W.keepIn K (.ref f4) = true)
    {f5 : Addr} {od5 an5 : Option Addr} {sl5 : Array (Option Value)} {oc5 kV5 dc5 pm5 cd5 ct5 : Value}
    (a5 : PySem.W.nsIn K mainGlobals "wrong_coin" = some (some (.ref f5))) (l5 : K.lookup f5 = some ⟨oc5, od5, .func (PySem.W.fnOf "wrong_coin" "wrong_coin" (defArgs s_wrong_coin) (defBody s_wrong_coin) (defScope s_wrong_coin) .none kV5 dc5 pm5 an5 cd5 ct5), sl5⟩) (c5 : PySem.W.codeIn K cd5 "wrong_coin" = true) (k5 : PySem.W.keepIn K (.ref f5) = true)
    {f6 : Addr} {od6 an6 : Option Addr} {sl6 : Array (Option Value)} {oc6 kV6 dc6 pm6 cd6 ct6 : Value}
    (a6 : PySem.W.nsIn K mainGlobals "check_coins" = some (some (.ref f6))) (l6 : K.lookup f6 = some ⟨oc6, od6, .func (PySem.W.fnOf "check_coins" "check_coins" (defArgs s_check_coins) (defBody s_check_coins) (defScope s_check_coins) .none kV6 dc6 pm6 an6 cd6 ct6), sl6⟩) (c6 : PySem.W.codeIn K cd6 "check_coins" = true) (k6 : PySem.W.keepIn K (.ref f6) = true)
    {f7 : Addr} {od7 an7 : Option Addr} {sl7 : Array (Option Value)} {oc7 kV7 dc7 pm7 cd7 ct7 : Value}
    (a7 : PySem.W.nsIn K mainGlobals "is_amount" = some (some (.ref f7))) (l7 : K.lookup f7 = some ⟨oc7, od7, .func (PySem.W.fnOf "is_amount" "is_amount" (defArgs s_is_amount) (defBody s_is_amount) (defScope s_is_amount) .none kV7 dc7 pm7 an7 cd7 ct7), sl7⟩) (c7 : PySem.W.codeIn K cd7 "is_amount" = true) (k7 : PySem.W.keepIn K (.ref f7) = true)
    {f8 : Addr} {od8 an8 : Option Addr} {sl8 : Array (Option Value)} {oc8 kV8 dc8 pm8 cd8 ct8 : Value}
    (a8 : PySem.W.nsIn K mainGlobals "check_amount" = some (some (.ref f8))) (l8 : K.lookup f8 = some ⟨oc8, od8, .func (PySem.W.fnOf "check_amount" "check_amount" (defArgs s_check_amount) (defBody s_check_amount) (defScope s_check_amount) .none kV8 dc8 pm8 an8 cd8 ct8), sl8⟩) (c8 : PySem.W.codeIn K cd8 "check_amount" = true) (k8 : PySem.W.keepIn K (.ref f8) = true)
    {f9 : Addr} {od9 an9 : Option Addr} {sl9 : Array (Option Value)} {oc9 kV9 dc9 pm9 cd9 ct9 : Value}
    (a9 : PySem.W.nsIn K mainGlobals "fewest_to" = some (some (.ref f9))) (l9 : K.lookup f9 = some ⟨oc9, od9, .func (PySem.W.fnOf "fewest_to" "fewest_to" (defArgs s_fewest_to) (defBody s_fewest_to) (defScope s_fewest_to) .none kV9 dc9 pm9 an9 cd9 ct9), sl9⟩) (c9 : PySem.W.codeIn K cd9 "fewest_to" = true) (k9 : PySem.W.keepIn K (.ref f9) = true)
    {f10 : Addr} {od10 an10 : Option Addr} {sl10 : Array (Option Value)} {oc10 kV10 dc10 pm10 cd10 ct10 : Value}
    (a10 : PySem.W.nsIn K mainGlobals "check_paid" = some (some (.ref f10))) (l10 : K.lookup f10 = some ⟨oc10, od10, .func (PySem.W.fnOf "check_paid" "check_paid" (defArgs s_check_paid) (defBody s_check_paid) (defScope s_check_paid) .none kV10 dc10 pm10 an10 cd10 ct10), sl10⟩) (c10 : PySem.W.codeIn K cd10 "check_paid" = true) (k10 : PySem.W.keepIn K (.ref f10) = true)
    {f11 : Addr} {od11 an11 : Option Addr} {sl11 : Array (Option Value)} {oc11 kV11 dc11 pm11 cd11 ct11 : Value}
    (a11 : PySem.W.nsIn K mainGlobals "fewest_coins" = some (some (.ref f11))) (l11 : K.lookup f11 = some ⟨oc11, od11, .func (PySem.W.fnOf "fewest_coins" "fewest_coins" (defArgs s_fewest_coins) (defBody s_fewest_coins) (defScope s_fewest_coins) .none kV11 dc11 pm11 an11 cd11 ct11), sl11⟩) (c11 : PySem.W.codeIn K cd11 "fewest_coins" = true) (k11 : PySem.W.keepIn K (.ref f11) = true)
    {f12 : Addr} {od12 an12 : Option Addr} {sl12 : Array (Option Value)} {oc12 kV12 dc12 pm12 cd12 ct12 : Value}
    (a12 : PySem.W.nsIn K mainGlobals "common_of" = some (some (.ref f12))) (l12 : K.lookup f12 = some ⟨oc12, od12, .func (PySem.W.fnOf "common_of" "common_of" (defArgs s_common_of) (defBody s_common_of) (defScope s_common_of) .none kV12 dc12 pm12 an12 cd12 ct12), sl12⟩) (c12 : PySem.W.codeIn K cd12 "common_of" = true) (k12 : PySem.W.keepIn K (.ref f12) = true)
    {f13 : Addr} {od13 an13 : Option Addr} {sl13 : Array (Option Value)} {oc13 kV13 dc13 pm13 cd13 ct13 : Value}
    (a13 : PySem.W.nsIn K mainGlobals "first_paid" = some (some (.ref f13))) (l13 : K.lookup f13 = some ⟨oc13, od13, .func (PySem.W.fnOf "first_paid" "first_paid" (defArgs s_first_paid) (defBody s_first_paid) (defScope s_first_paid) .none kV13 dc13 pm13 an13 cd13 ct13), sl13⟩) (c13 : PySem.W.codeIn K cd13 "first_paid" = true) (k13 : PySem.W.keepIn K (.ref f13) = true)
    {f14 : Addr} {od14 an14 : Option Addr} {sl14 : Array (Option Value)} {oc14 kV14 dc14 pm14 cd14 ct14 : Value}
    (a14 : PySem.W.nsIn K mainGlobals "gap_by" = some (some (.ref f14))) (l14 : K.lookup f14 = some ⟨oc14, od14, .func (PySem.W.fnOf "gap_by" "gap_by" (defArgs s_gap_by) (defBody s_gap_by) (defScope s_gap_by) .none kV14 dc14 pm14 an14 cd14 ct14), sl14⟩) (c14 : PySem.W.codeIn K cd14 "gap_by" = true) (k14 : PySem.W.keepIn K (.ref f14) = true)
    {f15 : Addr} {od15 an15 : Option Addr} {sl15 : Array (Option Value)} {oc15 kV15 dc15 pm15 cd15 ct15 : Value}
    (a15 : PySem.W.nsIn K mainGlobals "last_gap" = some (some (.ref f15))) (l15 : K.lookup f15 = some ⟨oc15, od15, .func (PySem.W.fnOf "last_gap" "last_gap" (defArgs s_last_gap) (defBody s_last_gap) (defScope s_last_gap) .none kV15 dc15 pm15 an15 cd15 ct15), sl15⟩) (c15 : PySem.W.codeIn K cd15 "last_gap" = true) (k15 : PySem.W.keepIn K (.ref f15) = true)
    {f16 : Addr} {od16 an16 : Option Addr} {sl16 : Array (Option Value)} {oc16 kV16 dc16 pm16 cd16 ct16 : Value}
    (a16 : PySem.W.nsIn K mainGlobals "greedy_many" = some (some (.ref f16))) (l16 : K.lookup f16 = some ⟨oc16, od16, .func (PySem.W.fnOf "greedy_many" "greedy_many" (defArgs s_greedy_many) (defBody s_greedy_many) (defScope s_greedy_many) .none kV16 dc16 pm16 an16 cd16 ct16), sl16⟩) (c16 : PySem.W.codeIn K cd16 "greedy_many" = true) (k16 : PySem.W.keepIn K (.ref f16) = true)
    {f17 : Addr} {od17 an17 : Option Addr} {sl17 : Array (Option Value)} {oc17 kV17 dc17 pm17 cd17 ct17 : Value}
    (a17 : PySem.W.nsIn K mainGlobals "fault_by" = some (some (.ref f17))) (l17 : K.lookup f17 = some ⟨oc17, od17, .func (PySem.W.fnOf "fault_by" "fault_by" (defArgs s_fault_by) (defBody s_fault_by) (defScope s_fault_by) .none kV17 dc17 pm17 an17 cd17 ct17), sl17⟩) (c17 : PySem.W.codeIn K cd17 "fault_by" = true) (k17 : PySem.W.keepIn K (.ref f17) = true)
    {f18 : Addr} {od18 an18 : Option Addr} {sl18 : Array (Option Value)} {oc18 kV18 dc18 pm18 cd18 ct18 : Value}
    (a18 : PySem.W.nsIn K mainGlobals "check_with_one" = some (some (.ref f18))) (l18 : K.lookup f18 = some ⟨oc18, od18, .func (PySem.W.fnOf "check_with_one" "check_with_one" (defArgs s_check_with_one) (defBody s_check_with_one) (defScope s_check_with_one) .none kV18 dc18 pm18 an18 cd18 ct18), sl18⟩) (c18 : PySem.W.codeIn K cd18 "check_with_one" = true) (k18 : PySem.W.keepIn K (.ref f18) = true)
    {f19 : Addr} {od19 an19 : Option Addr} {sl19 : Array (Option Value)} {oc19 kV19 dc19 pm19 cd19 ct19 : Value}
    (a19 : PySem.W.nsIn K mainGlobals "first_fault" = some (some (.ref f19))) (l19 : K.lookup f19 = some ⟨oc19, od19, .func (PySem.W.fnOf "first_fault" "first_fault" (defArgs s_first_fault) (defBody s_first_fault) (defScope s_first_fault) .none kV19 dc19 pm19 an19 cd19 ct19), sl19⟩) (c19 : PySem.W.codeIn K cd19 "first_fault" = true) (k19 : PySem.W.keepIn K (.ref f19) = true)
    {f20 : Addr} {od20 an20 : Option Addr} {sl20 : Array (Option Value)} {oc20 kV20 dc20 pm20 cd20 ct20 : Value}
    (a20 : PySem.W.nsIn K mainGlobals "is_greedy" = some (some (.ref f20))) (l20 : K.lookup f20 = some ⟨oc20, od20, .func (PySem.W.fnOf "is_greedy" "is_greedy" (defArgs s_is_greedy) (defBody s_is_greedy) (defScope s_is_greedy) .none kV20 dc20 pm20 an20 cd20 ct20), sl20⟩) (c20 : PySem.W.codeIn K cd20 "is_greedy" = true) (k20 : PySem.W.keepIn K (.ref f20) = true)
    {f21 : Addr} {od21 an21 : Option Addr} {sl21 : Array (Option Value)} {oc21 kV21 dc21 pm21 cd21 ct21 : Value}
    (a21 : PySem.W.nsIn K mainGlobals "left_by" = some (some (.ref f21))) (l21 : K.lookup f21 = some ⟨oc21, od21, .func (PySem.W.fnOf "left_by" "left_by" (defArgs s_left_by) (defBody s_left_by) (defScope s_left_by) .none kV21 dc21 pm21 an21 cd21 ct21), sl21⟩) (c21 : PySem.W.codeIn K cd21 "left_by" = true) (k21 : PySem.W.keepIn K (.ref f21) = true)
    {f22 : Addr} {od22 an22 : Option Addr} {sl22 : Array (Option Value)} {oc22 kV22 dc22 pm22 cd22 ct22 : Value}
    (a22 : PySem.W.nsIn K mainGlobals "greatest_by" = some (some (.ref f22))) (l22 : K.lookup f22 = some ⟨oc22, od22, .func (PySem.W.fnOf "greatest_by" "greatest_by" (defArgs s_greatest_by) (defBody s_greatest_by) (defScope s_greatest_by) .none kV22 dc22 pm22 an22 cd22 ct22), sl22⟩) (c22 : PySem.W.codeIn K cd22 "greatest_by" = true) (k22 : PySem.W.keepIn K (.ref f22) = true)
    {f23 : Addr} {od23 an23 : Option Addr} {sl23 : Array (Option Value)} {oc23 kV23 dc23 pm23 cd23 ct23 : Value}
    (a23 : PySem.W.nsIn K mainGlobals "is_chain_by" = some (some (.ref f23))) (l23 : K.lookup f23 = some ⟨oc23, od23, .func (PySem.W.fnOf "is_chain_by" "is_chain_by" (defArgs s_is_chain_by) (defBody s_is_chain_by) (defScope s_is_chain_by) .none kV23 dc23 pm23 an23 cd23 ct23), sl23⟩) (c23 : PySem.W.codeIn K cd23 "is_chain_by" = true) (k23 : PySem.W.keepIn K (.ref f23) = true)
    {f24 : Addr} {od24 an24 : Option Addr} {sl24 : Array (Option Value)} {oc24 kV24 dc24 pm24 cd24 ct24 : Value}
    (a24 : PySem.W.nsIn K mainGlobals "amounts_in" = some (some (.ref f24))) (l24 : K.lookup f24 = some ⟨oc24, od24, .func (PySem.W.fnOf "amounts_in" "amounts_in" (defArgs s_amounts_in) (defBody s_amounts_in) (defScope s_amounts_in) .none kV24 dc24 pm24 an24 cd24 ct24), sl24⟩) (c24 : PySem.W.codeIn K cd24 "amounts_in" = true) (k24 : PySem.W.keepIn K (.ref f24) = true)
    {f25 : Addr} {od25 an25 : Option Addr} {sl25 : Array (Option Value)} {oc25 kV25 dc25 pm25 cd25 ct25 : Value}
    (a25 : PySem.W.nsIn K mainGlobals "first_in" = some (some (.ref f25))) (l25 : K.lookup f25 = some ⟨oc25, od25, .func (PySem.W.fnOf "first_in" "first_in" (defArgs s_first_in) (defBody s_first_in) (defScope s_first_in) .none kV25 dc25 pm25 an25 cd25 ct25), sl25⟩) (c25 : PySem.W.codeIn K cd25 "first_in" = true) (k25 : PySem.W.keepIn K (.ref f25) = true)
    {f26 : Addr} {od26 an26 : Option Addr} {sl26 : Array (Option Value)} {oc26 kV26 dc26 pm26 cd26 ct26 : Value}
    (a26 : PySem.W.nsIn K mainGlobals "all_parts" = some (some (.ref f26))) (l26 : K.lookup f26 = some ⟨oc26, od26, .func (PySem.W.fnOf "all_parts" "all_parts" (defArgs s_all_parts) (defBody s_all_parts) (defScope s_all_parts) .none kV26 dc26 pm26 an26 cd26 ct26), sl26⟩) (c26 : PySem.W.codeIn K cd26 "all_parts" = true) (k26 : PySem.W.keepIn K (.ref f26) = true)
    {f27 : Addr} {od27 an27 : Option Addr} {sl27 : Array (Option Value)} {oc27 kV27 dc27 pm27 cd27 ct27 : Value}
    (a27 : PySem.W.nsIn K mainGlobals "least_trap_by" = some (some (.ref f27))) (l27 : K.lookup f27 = some ⟨oc27, od27, .func (PySem.W.fnOf "least_trap_by" "least_trap_by" (defArgs s_least_trap_by) (defBody s_least_trap_by) (defScope s_least_trap_by) .none kV27 dc27 pm27 an27 cd27 ct27), sl27⟩) (c27 : PySem.W.codeIn K cd27 "least_trap_by" = true) (k27 : PySem.W.keepIn K (.ref f27) = true)
    {f28 : Addr} {od28 an28 : Option Addr} {sl28 : Array (Option Value)} {oc28 kV28 dc28 pm28 cd28 ct28 : Value}
    (a28 : PySem.W.nsIn K mainGlobals "is_chain" = some (some (.ref f28))) (l28 : K.lookup f28 = some ⟨oc28, od28, .func (PySem.W.fnOf "is_chain" "is_chain" (defArgs s_is_chain) (defBody s_is_chain) (defScope s_is_chain) .none kV28 dc28 pm28 an28 cd28 ct28), sl28⟩) (c28 : PySem.W.codeIn K cd28 "is_chain" = true) (k28 : PySem.W.keepIn K (.ref f28) = true)
    {f29 : Addr} {od29 an29 : Option Addr} {sl29 : Array (Option Value)} {oc29 kV29 dc29 pm29 cd29 ct29 : Value}
    (a29 : PySem.W.nsIn K mainGlobals "least_trap" = some (some (.ref f29))) (l29 : K.lookup f29 = some ⟨oc29, od29, .func (PySem.W.fnOf "least_trap" "least_trap" (defArgs s_least_trap) (defBody s_least_trap) (defScope s_least_trap) .none kV29 dc29 pm29 an29 cd29 ct29), sl29⟩) (c29 : PySem.W.codeIn K cd29 "least_trap" = true) (k29 : PySem.W.keepIn K (.ref f29) = true)
    {f30 : Addr} {od30 an30 : Option Addr} {sl30 : Array (Option Value)} {oc30 kV30 dc30 pm30 cd30 ct30 : Value}
    (a30 : PySem.W.nsIn K mainGlobals "_law_bag" = some (some (.ref f30))) (l30 : K.lookup f30 = some ⟨oc30, od30, .func (PySem.W.fnOf "_law_bag" "_law_bag" (defArgs s_law_bag) (defBody s_law_bag) (defScope s_law_bag) .none kV30 dc30 pm30 an30 cd30 ct30), sl30⟩) (c30 : PySem.W.codeIn K cd30 "_law_bag" = true) (k30 : PySem.W.keepIn K (.ref f30) = true)
    {f31 : Addr} {od31 an31 : Option Addr} {sl31 : Array (Option Value)} {oc31 kV31 dc31 pm31 cd31 ct31 : Value}
    (a31 : PySem.W.nsIn K mainGlobals "_law_take" = some (some (.ref f31))) (l31 : K.lookup f31 = some ⟨oc31, od31, .func (PySem.W.fnOf "_law_take" "_law_take" (defArgs s_law_take) (defBody s_law_take) (defScope s_law_take) .none kV31 dc31 pm31 an31 cd31 ct31), sl31⟩) (c31 : PySem.W.codeIn K cd31 "_law_take" = true) (k31 : PySem.W.keepIn K (.ref f31) = true)
    {f32 : Addr} {od32 an32 : Option Addr} {sl32 : Array (Option Value)} {oc32 kV32 dc32 pm32 cd32 ct32 : Value}
    (a32 : PySem.W.nsIn K mainGlobals "_law_pull" = some (some (.ref f32))) (l32 : K.lookup f32 = some ⟨oc32, od32, .func (PySem.W.fnOf "_law_pull" "_law_pull" (defArgs s_law_pull) (defBody s_law_pull) (defScope s_law_pull) .none kV32 dc32 pm32 an32 cd32 ct32), sl32⟩) (c32 : PySem.W.codeIn K cd32 "_law_pull" = true) (k32 : PySem.W.keepIn K (.ref f32) = true)
    {f33 : Addr} {od33 an33 : Option Addr} {sl33 : Array (Option Value)} {oc33 kV33 dc33 pm33 cd33 ct33 : Value}
    (a33 : PySem.W.nsIn K mainGlobals "_law_coins" = some (some (.ref f33))) (l33 : K.lookup f33 = some ⟨oc33, od33, .func (PySem.W.fnOf "_law_coins" "_law_coins" (defArgs s_law_coins) (defBody s_law_coins) (defScope s_law_coins) .none kV33 dc33 pm33 an33 cd33 ct33), sl33⟩) (c33 : PySem.W.codeIn K cd33 "_law_coins" = true) (k33 : PySem.W.keepIn K (.ref f33) = true)
    {f34 : Addr} {od34 an34 : Option Addr} {sl34 : Array (Option Value)} {oc34 kV34 dc34 pm34 cd34 ct34 : Value}
    (a34 : PySem.W.nsIn K mainGlobals "_law_with_one" = some (some (.ref f34))) (l34 : K.lookup f34 = some ⟨oc34, od34, .func (PySem.W.fnOf "_law_with_one" "_law_with_one" (defArgs s_law_with_one) (defBody s_law_with_one) (defScope s_law_with_one) .none kV34 dc34 pm34 an34 cd34 ct34), sl34⟩) (c34 : PySem.W.codeIn K cd34 "_law_with_one" = true) (k34 : PySem.W.keepIn K (.ref f34) = true)
    {f35 : Addr} {od35 an35 : Option Addr} {sl35 : Array (Option Value)} {oc35 kV35 dc35 pm35 cd35 ct35 : Value}
    (a35 : PySem.W.nsIn K mainGlobals "_law_greedily" = some (some (.ref f35))) (l35 : K.lookup f35 = some ⟨oc35, od35, .func (PySem.W.fnOf "_law_greedily" "_law_greedily" (defArgs s_law_greedily) (defBody s_law_greedily) (defScope s_law_greedily) .none kV35 dc35 pm35 an35 cd35 ct35), sl35⟩) (c35 : PySem.W.codeIn K cd35 "_law_greedily" = true) (k35 : PySem.W.keepIn K (.ref f35) = true)
    {f36 : Addr} {od36 an36 : Option Addr} {sl36 : Array (Option Value)} {oc36 kV36 dc36 pm36 cd36 ct36 : Value}
    (a36 : PySem.W.nsIn K mainGlobals "_law_chain" = some (some (.ref f36))) (l36 : K.lookup f36 = some ⟨oc36, od36, .func (PySem.W.fnOf "_law_chain" "_law_chain" (defArgs s_law_chain) (defBody s_law_chain) (defScope s_law_chain) .none kV36 dc36 pm36 an36 cd36 ct36), sl36⟩) (c36 : PySem.W.codeIn K cd36 "_law_chain" = true) (k36 : PySem.W.keepIn K (.ref f36) = true)
    {f37 : Addr} {od37 an37 : Option Addr} {sl37 : Array (Option Value)} {oc37 kV37 dc37 pm37 cd37 ct37 : Value}
    (a37 : PySem.W.nsIn K mainGlobals "_law_right" = some (some (.ref f37))) (l37 : K.lookup f37 = some ⟨oc37, od37, .func (PySem.W.fnOf "_law_right" "_law_right" (defArgs s_law_right) (defBody s_law_right) (defScope s_law_right) .none kV37 dc37 pm37 an37 cd37 ct37), sl37⟩) (c37 : PySem.W.codeIn K cd37 "_law_right" = true) (k37 : PySem.W.keepIn K (.ref f37) = true)
    {f38 : Addr} {od38 an38 : Option Addr} {sl38 : Array (Option Value)} {oc38 kV38 dc38 pm38 cd38 ct38 : Value}
    (a38 : PySem.W.nsIn K mainGlobals "law" = some (some (.ref f38))) (l38 : K.lookup f38 = some ⟨oc38, od38, .func (PySem.W.fnOf "law" "law" (defArgs s_law) (defBody s_law) (defScope s_law) .none kV38 dc38 pm38 an38 cd38 ct38), sl38⟩) (c38 : PySem.W.codeIn K cd38 "law" = true) (k38 : PySem.W.keepIn K (.ref f38) = true)
    {t0 : Tok} (e0 : PySem.W.nsIn K mainGlobals "MOST_COINS" = some (some (.int 3 t0)))
    {t1 : Tok} (e1 : PySem.W.nsIn K mainGlobals "MOST_VALUE" = some (some (.int 100 t1)))
    {t2 : Tok} (e2 : PySem.W.nsIn K mainGlobals "MOST_AMOUNT" = some (some (.int 2000 t2)))
    {t3 : Tok} (e3 : PySem.W.nsIn K mainGlobals "MOST_IN_TRAP" = some (some (.int 5 t3)))
    (y0 : PySem.W.nsIn K mainGlobals "gcd" = some (some (.builtin "math.gcd")))
    (z0 : PySem.W.nsIn K mainGlobals "len" = some none)
    (z1 : PySem.W.nsIn K mainGlobals "abs" = some none)
    (z2 : PySem.W.nsIn K mainGlobals "int" = some none)
    (z3 : PySem.W.nsIn K mainGlobals "divmod" = some none)
    (z4 : PySem.W.nsIn K mainGlobals "max" = some none)
    (z5 : PySem.W.nsIn K mainGlobals "min" = some none)
    (z6 : PySem.W.nsIn K mainGlobals "sum" = some none)
    (z7 : PySem.W.nsIn K mainGlobals "all" = some none)
    (z8 : PySem.W.nsIn K mainGlobals "any" = some none)
    (z9 : PySem.W.nsIn K mainGlobals "sorted" = some none)
    (z10 : PySem.W.nsIn K mainGlobals "tuple" = some none)
    (z11 : PySem.W.nsIn K mainGlobals "list" = some none)
    (z12 : PySem.W.nsIn K mainGlobals "repr" = some none)
    (z13 : PySem.W.nsIn K mainGlobals "bool" = some none)
    (z14 : PySem.W.nsIn K mainGlobals "str" = some none)
    (z15 : PySem.W.nsIn K mainGlobals "isinstance" = some none)
    (z16 : PySem.W.nsIn K mainGlobals "range" = some none)
    (z17 : PySem.W.nsIn K mainGlobals "zip" = some none)
    (z18 : PySem.W.nsIn K mainGlobals "enumerate" = some none)
    (z19 : PySem.W.nsIn K mainGlobals "set" = some none)
    : ∃ (fd : FuncData) (R : RC), (∀ (s : Shared) (v : Value), BindsTo s fd ⟨[v], []⟩ [("script", v)]) ∧ R.K = K ∧ ∀ base : Heap, K.In base → base.Ns mainGlobals mg → FnG P w K mg base 39 fa fd ["script"] (spF R 1 (Ss.fn (gOf phs) fv fu 1 n_law.length b_law)) := by
  have ef := hfa.symm.trans (PySem.W.mg_of X G a38)
  cases ef
  refine ⟨PySem.W.fnOf "law" "law" (defArgs s_law) (defBody s_law) (defScope s_law) .none kV38 dc38 pm38 an38 cd38 ct38, ⟨K, fas f0 f1 f2 f3 f4 f5 f6 f7 f8 f9 f10 f11 f12 f13 f14 f15 f16 f17 f18 f19 f20 f21 f22 f23 f24 f25 f26 f27 f28 f29 f30 f31 f32 f33 f34 f35 f36 f37 fa, fun _ => none⟩, fun s v => .of_eq rfl, rfl, fun base _ _ => ?_⟩
  generalize hR : RC.mk K (fas f0 f1 f2 f3 f4 f5 f6 f7 f8 f9 f10 f11 f12 f13 f14 f15 f16 f17 f18 f19 f20 f21 f22 f23 f24 f25 f26 f27 f28 f29 f30 f31 f32 f33 f34 f35 f36 f37 fa) (fun _ => none) = R
  have m : ModG P w K mg base R fv cns gb := by
    subst hR
    refine ⟨rfl, fun x hx => ?_, fun k x e => ?_, ?_⟩
    · have cs : x = ("len" : Str) ∨ x = ("abs" : Str) ∨ x = ("int" : Str) ∨ x = ("divmod" : Str) ∨ x = ("max" : Str) ∨ x = ("min" : Str) ∨ x = ("sum" : Str) ∨ x = ("all" : Str) ∨ x = ("any" : Str) ∨ x = ("sorted" : Str) ∨ x = ("tuple" : Str) ∨ x = ("list" : Str) ∨ x = ("repr" : Str) ∨ x = ("bool" : Str) ∨ x = ("str" : Str) ∨ x = ("isinstance" : Str) ∨ x = ("range" : Str) ∨ x = ("zip" : Str) ∨ x = ("enumerate" : Str) ∨ x = ("set" : Str) := by simpa [bltN] using hx
      rcases cs with rfl | rfl | rfl | rfl | rfl | rfl | rfl | rfl | rfl | rfl | rfl | rfl | rfl | rfl | rfl | rfl | rfl | rfl | rfl | rfl
      · exact PySem.W.mg_none_of X G z0
      · exact PySem.W.mg_none_of X G z1
      · exact PySem.W.mg_none_of X G z2
      · exact PySem.W.mg_none_of X G z3
      · exact PySem.W.mg_none_of X G z4
      · exact PySem.W.mg_none_of X G z5
      · exact PySem.W.mg_none_of X G z6
      · exact PySem.W.mg_none_of X G z7
      · exact PySem.W.mg_none_of X G z8
      · exact PySem.W.mg_none_of X G z9
      · exact PySem.W.mg_none_of X G z10
      · exact PySem.W.mg_none_of X G z11
      · exact PySem.W.mg_none_of X G z12
      · exact PySem.W.mg_none_of X G z13
      · exact PySem.W.mg_none_of X G z14
      · exact PySem.W.mg_none_of X G z15
      · exact PySem.W.mg_none_of X G z16
      · exact PySem.W.mg_none_of X G z17
      · exact PySem.W.mg_none_of X G z18
      · exact PySem.W.mg_none_of X G z19
    · match k, e with
      | 0, e => cases e; exact ⟨_, .int 3, _, rfl, PySem.W.mg_of X G e0, ⟨_, rfl⟩, fun _ => rfl⟩
      | 1, e => cases e; exact ⟨_, .int 100, _, rfl, PySem.W.mg_of X G e1, ⟨_, rfl⟩, fun _ => rfl⟩
      | 2, e => cases e; exact ⟨_, .int 2000, _, rfl, PySem.W.mg_of X G e2, ⟨_, rfl⟩, fun _ => rfl⟩
      | 3, e => cases e; exact ⟨_, .int 5, _, rfl, PySem.W.mg_of X G e3, ⟨_, rfl⟩, fun _ => rfl⟩
      | (k + 4), e => exact nomatch e
    · exact fun _ => PySem.W.mg_of X G y0
  have F0 := fun_mk (st := s_is_whole) l0 c0 k0
  have A0 : At K mg R kp 0 s_is_whole "is_whole" p_is_whole := ⟨f0, _, by rw [← hR]; rfl, F0, PySem.W.mg_of X G a0, F0.binds fun _ _ _ _ _ _ us hl => match us, hl with | [_], _ => rfl, fun ns pm h => by simp [kp] at h⟩
  have F1 := fun_mk (st := s_is_between) l1 c1 k1
  have A1 : At K mg R kp 1 s_is_between "is_between" p_is_between := ⟨f1, _, by rw [← hR]; rfl, F1, PySem.W.mg_of X G a1, F1.binds fun _ _ _ _ _ _ us hl => match us, hl with | [_, _, _], _ => rfl, fun ns pm h => by simp [kp] at h⟩
  have F2 := fun_mk (st := s_is_row) l2 c2 k2
  have A2 : At K mg R kp 2 s_is_row "is_row" p_is_row := ⟨f2, _, by rw [← hR]; rfl, F2, PySem.W.mg_of X G a2, F2.binds fun _ _ _ _ _ _ us hl => match us, hl with | [_, _, _], _ => rfl, fun ns pm h => by simp [kp] at h⟩
  have F3 := fun_mk (st := s_is_coin_behind) l3 c3 k3
  have A3 : At K mg R kp 3 s_is_coin_behind "is_coin_behind" p_is_coin_behind := ⟨f3, _, by rw [← hR]; rfl, F3, PySem.W.mg_of X G a3, F3.binds fun _ _ _ _ _ _ us hl => match us, hl with | [_, _], _ => rfl, fun ns pm h => by simp [kp] at h⟩
  have F4 := fun_mk (st := s_first_wrong) l4 c4 k4
  have A4 : At K mg R kp 4 s_first_wrong "first_wrong" p_first_wrong := ⟨f4, _, by rw [← hR]; rfl, F4, PySem.W.mg_of X G a4, F4.binds fun _ _ _ _ _ _ us hl => match us, hl with | [_, _], _ => rfl, fun ns pm h => by simp [kp] at h⟩
  have F5 := fun_mk (st := s_wrong_coin) l5 c5 k5
  have A5 : At K mg R kp 5 s_wrong_coin "wrong_coin" p_wrong_coin := ⟨f5, _, by rw [← hR]; rfl, F5, PySem.W.mg_of X G a5, F5.binds fun _ _ _ _ _ _ us hl => match us, hl with | [_], _ => rfl, fun ns pm h => by simp [kp] at h⟩
  have F6 := fun_mk (st := s_check_coins) l6 c6 k6
  have A6 : At K mg R kp 6 s_check_coins "check_coins" p_check_coins := ⟨f6, _, by rw [← hR]; rfl, F6, PySem.W.mg_of X G a6, F6.binds fun _ _ _ _ _ _ us hl => match us, hl with | [_], _ => rfl, fun ns pm h => by simp [kp] at h⟩
  have F7 := fun_mk (st := s_is_amount) l7 c7 k7
  have A7 : At K mg R kp 7 s_is_amount "is_amount" p_is_amount := ⟨f7, _, by rw [← hR]; rfl, F7, PySem.W.mg_of X G a7, F7.binds fun _ _ _ _ _ _ us hl => match us, hl with | [_], _ => rfl, fun ns pm h => by simp [kp] at h⟩
  have F8 := fun_mk (st := s_check_amount) l8 c8 k8
  have A8 : At K mg R kp 8 s_check_amount "check_amount" p_check_amount := ⟨f8, _, by rw [← hR]; rfl, F8, PySem.W.mg_of X G a8, F8.binds fun _ _ _ _ _ _ us hl => match us, hl with | [_], _ => rfl, fun ns pm h => by simp [kp] at h⟩
  have F9 := fun_mk (st := s_fewest_to) l9 c9 k9
  have A9 : At K mg R kp 9 s_fewest_to "fewest_to" p_fewest_to := ⟨f9, _, by rw [← hR]; rfl, F9, PySem.W.mg_of X G a9, F9.binds fun _ _ _ _ _ _ us hl => match us, hl with | [_, _], _ => rfl, fun ns pm h => by simp [kp] at h⟩
  have F10 := fun_mk (st := s_check_paid) l10 c10 k10
  have A10 : At K mg R kp 10 s_check_paid "check_paid" p_check_paid := ⟨f10, _, by rw [← hR]; rfl, F10, PySem.W.mg_of X G a10, F10.binds fun _ _ _ _ _ _ us hl => match us, hl with | [_, _], _ => rfl, fun ns pm h => by simp [kp] at h⟩
  have F11 := fun_mk (st := s_fewest_coins) l11 c11 k11
  have A11 : At K mg R kp 11 s_fewest_coins "fewest_coins" p_fewest_coins := ⟨f11, _, by rw [← hR]; rfl, F11, PySem.W.mg_of X G a11, F11.binds fun _ _ _ _ _ _ us hl => match us, hl with | [_, _], _ => rfl, fun ns pm h => by simp [kp] at h⟩
  have F12 := fun_mk (st := s_common_of) l12 c12 k12
  have A12 : At K mg R kp 12 s_common_of "common_of" p_common_of := ⟨f12, _, by rw [← hR]; rfl, F12, PySem.W.mg_of X G a12, F12.binds fun _ _ _ _ _ _ us hl => match us, hl with | [_], _ => rfl, fun ns pm h => by simp [kp] at h⟩
  have F13 := fun_mk (st := s_first_paid) l13 c13 k13
  have A13 : At K mg R kp 13 s_first_paid "first_paid" p_first_paid := ⟨f13, _, by rw [← hR]; rfl, F13, PySem.W.mg_of X G a13, F13.binds fun _ _ _ _ _ _ us hl => match us, hl with | [_, _], _ => rfl, fun ns pm h => by simp [kp] at h⟩
  have F14 := fun_mk (st := s_gap_by) l14 c14 k14
  have A14 : At K mg R kp 14 s_gap_by "gap_by" p_gap_by := ⟨f14, _, by rw [← hR]; rfl, F14, PySem.W.mg_of X G a14, F14.binds fun _ _ _ _ _ _ us hl => match us, hl with | [_], _ => rfl, fun ns pm h => by simp [kp] at h⟩
  have F15 := fun_mk (st := s_last_gap) l15 c15 k15
  have A15 : At K mg R kp 15 s_last_gap "last_gap" p_last_gap := ⟨f15, _, by rw [← hR]; rfl, F15, PySem.W.mg_of X G a15, F15.binds fun _ _ _ _ _ _ us hl => match us, hl with | [_], _ => rfl, fun ns pm h => by simp [kp] at h⟩
  have F16 := fun_mk (st := s_greedy_many) l16 c16 k16
  have A16 : At K mg R kp 16 s_greedy_many "greedy_many" p_greedy_many := ⟨f16, _, by rw [← hR]; rfl, F16, PySem.W.mg_of X G a16, F16.binds fun _ _ _ _ _ _ us hl => match us, hl with | [_, _], _ => rfl, fun ns pm h => by simp [kp] at h⟩
  have F17 := fun_mk (st := s_fault_by) l17 c17 k17
  have A17 : At K mg R kp 17 s_fault_by "fault_by" p_fault_by := ⟨f17, _, by rw [← hR]; rfl, F17, PySem.W.mg_of X G a17, F17.binds fun _ _ _ _ _ _ us hl => match us, hl with | [_], _ => rfl, fun ns pm h => by simp [kp] at h⟩
  have F18 := fun_mk (st := s_check_with_one) l18 c18 k18
  have A18 : At K mg R kp 18 s_check_with_one "check_with_one" p_check_with_one := ⟨f18, _, by rw [← hR]; rfl, F18, PySem.W.mg_of X G a18, F18.binds fun _ _ _ _ _ _ us hl => match us, hl with | [_], _ => rfl, fun ns pm h => by simp [kp] at h⟩
  have F19 := fun_mk (st := s_first_fault) l19 c19 k19
  have A19 : At K mg R kp 19 s_first_fault "first_fault" p_first_fault := ⟨f19, _, by rw [← hR]; rfl, F19, PySem.W.mg_of X G a19, F19.binds fun _ _ _ _ _ _ us hl => match us, hl with | [_], _ => rfl, fun ns pm h => by simp [kp] at h⟩
  have F20 := fun_mk (st := s_is_greedy) l20 c20 k20
  have A20 : At K mg R kp 20 s_is_greedy "is_greedy" p_is_greedy := ⟨f20, _, by rw [← hR]; rfl, F20, PySem.W.mg_of X G a20, F20.binds fun _ _ _ _ _ _ us hl => match us, hl with | [_], _ => rfl, fun ns pm h => by simp [kp] at h⟩
  have F21 := fun_mk (st := s_left_by) l21 c21 k21
  have A21 : At K mg R kp 21 s_left_by "left_by" p_left_by := ⟨f21, _, by rw [← hR]; rfl, F21, PySem.W.mg_of X G a21, F21.binds fun _ _ _ _ _ _ us hl => match us, hl with | [_, _], _ => rfl, fun ns pm h => by simp [kp] at h⟩
  have F22 := fun_mk (st := s_greatest_by) l22 c22 k22
  have A22 : At K mg R kp 22 s_greatest_by "greatest_by" p_greatest_by := ⟨f22, _, by rw [← hR]; rfl, F22, PySem.W.mg_of X G a22, F22.binds fun _ _ _ _ _ _ us hl => match us, hl with | [_, _, _], _ => rfl, fun ns pm h => by simp [kp] at h⟩
  have F23 := fun_mk (st := s_is_chain_by) l23 c23 k23
  have A23 : At K mg R kp 23 s_is_chain_by "is_chain_by" p_is_chain_by := ⟨f23, _, by rw [← hR]; rfl, F23, PySem.W.mg_of X G a23, F23.binds fun _ _ _ _ _ _ us hl => match us, hl with | [_], _ => rfl, fun ns pm h => by simp [kp] at h⟩
  have F24 := fun_mk (st := s_amounts_in) l24 c24 k24
  have A24 : At K mg R kp 24 s_amounts_in "amounts_in" p_amounts_in := ⟨f24, _, by rw [← hR]; rfl, F24, PySem.W.mg_of X G a24, F24.binds fun _ _ _ _ _ _ us hl => match us, hl with | [_, _], _ => rfl, fun ns pm h => by simp [kp] at h⟩
  have F25 := fun_mk (st := s_first_in) l25 c25 k25
  have A25 : At K mg R kp 25 s_first_in "first_in" p_first_in := ⟨f25, _, by rw [← hR]; rfl, F25, PySem.W.mg_of X G a25, F25.binds fun _ _ _ _ _ _ us hl => match us, hl with | [_], _ => rfl, fun ns pm h => by simp [kp] at h⟩
  have F26 := fun_mk (st := s_all_parts) l26 c26 k26
  have A26 : At K mg R kp 26 s_all_parts "all_parts" p_all_parts := ⟨f26, _, by rw [← hR]; rfl, F26, PySem.W.mg_of X G a26, F26.binds fun _ _ _ _ _ _ us hl => match us, hl with | [_], _ => rfl, fun ns pm h => by simp [kp] at h⟩
  have F27 := fun_mk (st := s_least_trap_by) l27 c27 k27
  have A27 : At K mg R kp 27 s_least_trap_by "least_trap_by" p_least_trap_by := ⟨f27, _, by rw [← hR]; rfl, F27, PySem.W.mg_of X G a27, F27.binds fun _ _ _ _ _ _ us hl => match us, hl with | [_], _ => rfl, fun ns pm h => by simp [kp] at h⟩
  have F28 := fun_mk (st := s_is_chain) l28 c28 k28
  have A28 : At K mg R kp 28 s_is_chain "is_chain" p_is_chain := ⟨f28, _, by rw [← hR]; rfl, F28, PySem.W.mg_of X G a28, F28.binds fun _ _ _ _ _ _ us hl => match us, hl with | [_], _ => rfl, fun ns pm h => by (have h : (ns = (["coins"] : List Str) ∧ pm = [0]) := by simpa [kp] using h); rcases h with ⟨rfl, rfl⟩; exact bindsK_of F28 fun _ _ _ _ _ _ ws hl => match ws, hl with | [_], _ => rfl⟩
  have F29 := fun_mk (st := s_least_trap) l29 c29 k29
  have A29 : At K mg R kp 29 s_least_trap "least_trap" p_least_trap := ⟨f29, _, by rw [← hR]; rfl, F29, PySem.W.mg_of X G a29, F29.binds fun _ _ _ _ _ _ us hl => match us, hl with | [_], _ => rfl, fun ns pm h => by simp [kp] at h⟩
  have F30 := fun_mk (st := s_law_bag) l30 c30 k30
  have A30 : At K mg R kp 30 s_law_bag "_law_bag" p_law_bag := ⟨f30, _, by rw [← hR]; rfl, F30, PySem.W.mg_of X G a30, F30.binds fun _ _ _ _ _ _ us hl => match us, hl with | [_, _], _ => rfl, fun ns pm h => by simp [kp] at h⟩
  have F31 := fun_mk (st := s_law_take) l31 c31 k31
  have A31 : At K mg R kp 31 s_law_take "_law_take" p_law_take := ⟨f31, _, by rw [← hR]; rfl, F31, PySem.W.mg_of X G a31, F31.binds fun _ _ _ _ _ _ us hl => match us, hl with | [_, _], _ => rfl, fun ns pm h => by simp [kp] at h⟩
  have F32 := fun_mk (st := s_law_pull) l32 c32 k32
  have A32 : At K mg R kp 32 s_law_pull "_law_pull" p_law_pull := ⟨f32, _, by rw [← hR]; rfl, F32, PySem.W.mg_of X G a32, F32.binds fun _ _ _ _ _ _ us hl => match us, hl with | [_, _], _ => rfl, fun ns pm h => by simp [kp] at h⟩
  have F33 := fun_mk (st := s_law_coins) l33 c33 k33
  have A33 : At K mg R kp 33 s_law_coins "_law_coins" p_law_coins := ⟨f33, _, by rw [← hR]; rfl, F33, PySem.W.mg_of X G a33, F33.binds fun _ _ _ _ _ _ us hl => match us, hl with | [_, _], _ => rfl, fun ns pm h => by simp [kp] at h⟩
  have F34 := fun_mk (st := s_law_with_one) l34 c34 k34
  have A34 : At K mg R kp 34 s_law_with_one "_law_with_one" p_law_with_one := ⟨f34, _, by rw [← hR]; rfl, F34, PySem.W.mg_of X G a34, F34.binds fun _ _ _ _ _ _ us hl => match us, hl with | [_, _], _ => rfl, fun ns pm h => by simp [kp] at h⟩
  have F35 := fun_mk (st := s_law_greedily) l35 c35 k35
  have A35 : At K mg R kp 35 s_law_greedily "_law_greedily" p_law_greedily := ⟨f35, _, by rw [← hR]; rfl, F35, PySem.W.mg_of X G a35, F35.binds fun _ _ _ _ _ _ us hl => match us, hl with | [_, _], _ => rfl, fun ns pm h => by simp [kp] at h⟩
  have F36 := fun_mk (st := s_law_chain) l36 c36 k36
  have A36 : At K mg R kp 36 s_law_chain "_law_chain" p_law_chain := ⟨f36, _, by rw [← hR]; rfl, F36, PySem.W.mg_of X G a36, F36.binds fun _ _ _ _ _ _ us hl => match us, hl with | [_], _ => rfl, fun ns pm h => by simp [kp] at h⟩
  have F37 := fun_mk (st := s_law_right) l37 c37 k37
  have A37 : At K mg R kp 37 s_law_right "_law_right" p_law_right := ⟨f37, _, by rw [← hR]; rfl, F37, PySem.W.mg_of X G a37, F37.binds fun _ _ _ _ _ _ us hl => match us, hl with | [_], _ => rfl, fun ns pm h => by simp [kp] at h⟩
  have F38 := fun_mk (st := s_law) l38 c38 k38
  have A38 : At K mg R kp 38 s_law "law" p_law := ⟨fa, _, by rw [← hR]; rfl, F38, PySem.W.mg_of X G a38, F38.binds fun _ _ _ _ _ _ us hl => match us, hl with | [_], _ => rfl, fun ns pm h => by simp [kp] at h⟩
  have S0 : Fns P w K mg base R kp 0 (fns.take 0) (phs.take 0) := Fns.nil
  have S1 : Fns P w K mg base R kp 1 (fns.take 1) (phs.take 1) := S0.step (fu := fu) m A0 sc_is_whole ck_is_whole fun _ => .inr rfl
  have S2 : Fns P w K mg base R kp 2 (fns.take 2) (phs.take 2) := S1.step (fu := fu) m A1 sc_is_between ck_is_between fun _ => .inr rfl
  have S3 : Fns P w K mg base R kp 3 (fns.take 3) (phs.take 3) := S2.step (fu := fu) m A2 sc_is_row ck_is_row fun _ => .inr rfl
  have S4 : Fns P w K mg base R kp 4 (fns.take 4) (phs.take 4) := S3.step (fu := fu) m A3 sc_is_coin_behind ck_is_coin_behind fun _ => .inr rfl
  have S5 : Fns P w K mg base R kp 5 (fns.take 5) (phs.take 5) := S4.step (fu := fu) m A4 sc_first_wrong ck_first_wrong fun _ => .inr rfl
  have S6 : Fns P w K mg base R kp 6 (fns.take 6) (phs.take 6) := S5.step (fu := fu) m A5 sc_wrong_coin ck_wrong_coin fun _ => .inr rfl
  have S7 : Fns P w K mg base R kp 7 (fns.take 7) (phs.take 7) := S6.step (fu := fu) m A6 sc_check_coins ck_check_coins fun _ => .inr rfl
  have S8 : Fns P w K mg base R kp 8 (fns.take 8) (phs.take 8) := S7.step (fu := fu) m A7 sc_is_amount ck_is_amount fun _ => .inr rfl
  have S9 : Fns P w K mg base R kp 9 (fns.take 9) (phs.take 9) := S8.step (fu := fu) m A8 sc_check_amount ck_check_amount fun _ => .inr rfl
  have S10 : Fns P w K mg base R kp 10 (fns.take 10) (phs.take 10) := S9.step (fu := fu) m A9 sc_fewest_to ck_fewest_to fun _ => .inr rfl
  have S11 : Fns P w K mg base R kp 11 (fns.take 11) (phs.take 11) := S10.step (fu := fu) m A10 sc_check_paid ck_check_paid fun _ => .inr rfl
  have S12 : Fns P w K mg base R kp 12 (fns.take 12) (phs.take 12) := S11.step (fu := fu) m A11 sc_fewest_coins ck_fewest_coins fun _ => .inr rfl
  have S13 : Fns P w K mg base R kp 13 (fns.take 13) (phs.take 13) := S12.step (fu := fu) m A12 sc_common_of ck_common_of fun _ => .inr rfl
  have S14 : Fns P w K mg base R kp 14 (fns.take 14) (phs.take 14) := S13.step (fu := fu) m A13 sc_first_paid ck_first_paid fun _ => .inr rfl
  have S15 : Fns P w K mg base R kp 15 (fns.take 15) (phs.take 15) := S14.step (fu := fu) m A14 sc_gap_by ck_gap_by fun _ => .inr rfl
  have S16 : Fns P w K mg base R kp 16 (fns.take 16) (phs.take 16) := S15.step (fu := fu) m A15 sc_last_gap ck_last_gap fun _ => .inr rfl
  have S17 : Fns P w K mg base R kp 17 (fns.take 17) (phs.take 17) := S16.step (fu := fu) m A16 sc_greedy_many ck_greedy_many fun _ => .inr rfl
  have S18 : Fns P w K mg base R kp 18 (fns.take 18) (phs.take 18) := S17.step (fu := fu) m A17 sc_fault_by ck_fault_by fun _ => .inr rfl
  have S19 : Fns P w K mg base R kp 19 (fns.take 19) (phs.take 19) := S18.step (fu := fu) m A18 sc_check_with_one ck_check_with_one fun _ => .inr rfl
  have S20 : Fns P w K mg base R kp 20 (fns.take 20) (phs.take 20) := S19.step (fu := fu) m A19 sc_first_fault ck_first_fault fun _ => .inr rfl
  have S21 : Fns P w K mg base R kp 21 (fns.take 21) (phs.take 21) := S20.step (fu := fu) m A20 sc_is_greedy ck_is_greedy fun _ => .inr rfl
  have S22 : Fns P w K mg base R kp 22 (fns.take 22) (phs.take 22) := S21.step (fu := fu) m A21 sc_left_by ck_left_by fun _ => .inr rfl
  have S23 : Fns P w K mg base R kp 23 (fns.take 23) (phs.take 23) := S22.step (fu := fu) m A22 sc_greatest_by ck_greatest_by fun _ => .inr rfl
  have S24 : Fns P w K mg base R kp 24 (fns.take 24) (phs.take 24) := S23.step (fu := fu) m A23 sc_is_chain_by ck_is_chain_by fun _ => .inr rfl
  have S25 : Fns P w K mg base R kp 25 (fns.take 25) (phs.take 25) := S24.step (fu := fu) m A24 sc_amounts_in ck_amounts_in fun _ => .inr rfl
  have S26 : Fns P w K mg base R kp 26 (fns.take 26) (phs.take 26) := S25.step (fu := fu) m A25 sc_first_in ck_first_in fun _ => .inr rfl
  have S27 : Fns P w K mg base R kp 27 (fns.take 27) (phs.take 27) := S26.step (fu := fu) m A26 sc_all_parts ck_all_parts fun _ => .inr rfl
  have S28 : Fns P w K mg base R kp 28 (fns.take 28) (phs.take 28) := S27.step (fu := fu) m A27 sc_least_trap_by ck_least_trap_by fun _ => .inr rfl
  have S29 : Fns P w K mg base R kp 29 (fns.take 29) (phs.take 29) := S28.step (fu := fu) m A28 sc_is_chain ck_is_chain fun _ => .inr rfl
  have S30 : Fns P w K mg base R kp 30 (fns.take 30) (phs.take 30) := S29.step (fu := fu) m A29 sc_least_trap ck_least_trap fun _ => .inr rfl
  have S31 : Fns P w K mg base R kp 31 (fns.take 31) (phs.take 31) := S30.step (fu := fu) m A30 sc_law_bag ck_law_bag fun _ => .inr rfl
  have S32 : Fns P w K mg base R kp 32 (fns.take 32) (phs.take 32) := S31.step (fu := fu) m A31 sc_law_take ck_law_take fun _ => .inr rfl
  have S33 : Fns P w K mg base R kp 33 (fns.take 33) (phs.take 33) := S32.step (fu := fu) m A32 sc_law_pull ck_law_pull fun _ => .inr rfl
  have S34 : Fns P w K mg base R kp 34 (fns.take 34) (phs.take 34) := S33.step (fu := fu) m A33 sc_law_coins ck_law_coins fun _ => .inr rfl
  have S35 : Fns P w K mg base R kp 35 (fns.take 35) (phs.take 35) := S34.step (fu := fu) m A34 sc_law_with_one ck_law_with_one fun _ => .inr rfl
  have S36 : Fns P w K mg base R kp 36 (fns.take 36) (phs.take 36) := S35.step (fu := fu) m A35 sc_law_greedily ck_law_greedily fun _ => .inr rfl
  have S37 : Fns P w K mg base R kp 37 (fns.take 37) (phs.take 37) := S36.step (fu := fu) m A36 sc_law_chain ck_law_chain fun _ => .inr rfl
  have S38 : Fns P w K mg base R kp 38 (fns.take 38) (phs.take 38) := S37.step (fu := fu) m A37 sc_law_right ck_law_right fun _ => .inr rfl
  exact fn_data m (show Fns P w K mg base R kp 38 (fns.take 38) phs from S38) F38 sc_law ck_law
def spL (K : PySem.W.Frag) : Sp := fun vs H Q _ => ∃ (a : Addr) (ns : List Int), vs = [.ref a] ∧ SqL K H a (ns.map V.int) ∧ ns.length ≤ 63 ∧ ∀ H', Q (.bl true) H'
theorem all_mk {P : Program} {w : World} {K : PySem.W.Frag} {h : Heap} {mg : Str → Option Value} {fa : Addr} (X : K.In h) (G : h.Ns mainGlobals mg) (hfa : mg "law" = some (.ref fa))
    {f0 : Addr} {od0 an0 : Option Addr} {sl0 : Array (Option Value)} {oc0 kV0 dc0 pm0 cd0 ct0 : Value}
    (a0 : PySem.W.nsIn K mainGlobals "is_whole" = some (some (.ref f0))) (l0 : K.lookup f0 = some ⟨oc0, od0, .func (PySem.W.fnOf "is_whole" "is_whole" (defArgs s_is_whole) (defBody s_is_whole) (defScope s_is_whole) .none kV0 dc0 pm0 an0 cd0 ct0), sl0⟩) (c0 : PySem.W.codeIn K cd0 "is_whole" = true) (k0 : PySem.W.keepIn K (.ref f0) = true)
    {f1 : Addr} {od1 an1 : Option Addr} {sl1 : Array (Option Value)} {oc1 kV1 dc1 pm1 cd1 ct1 : Value}
    (a1 : PySem.W.nsIn K mainGlobals "is_between" = some (some (.ref f1))) (l1 : K.lookup f1 = some ⟨oc1, od1, .func (PySem.W.fnOf "is_between" "is_between" (defArgs s_is_between) (defBody s_is_between) (defScope s_is_between) .none kV1 dc1 pm1 an1 cd1 ct1), sl1⟩) (c1 : PySem.W.codeIn K cd1 "is_between" = true) (k1 : PySem.W.keepIn K (.ref f1) = true)
    {f2 : Addr} {od2 an2 : Option Addr} {sl2 : Array (Option Value)} {oc2 kV2 dc2 pm2 cd2 ct2 : Value}
    (a2 : PySem.W.nsIn K mainGlobals "is_row" = some (some (.ref f2))) (l2 : K.lookup f2 = some ⟨oc2, od2, .func (PySem.W.fnOf "is_row" "is_row" (defArgs s_is_row) (defBody s_is_row) (defScope s_is_row) .none kV2 dc2 pm2 an2 cd2 ct2), sl2⟩) (c2 : PySem.W.codeIn K cd2 "is_row" = true) (k2 : PySem.W.keepIn K (.ref f2) = true)
    {f3 : Addr} {od3 an3 : Option Addr} {sl3 : Array (Option Value)} {oc3 kV3 dc3 pm3 cd3 ct3 : Value}
    (a3 : PySem.W.nsIn K mainGlobals "is_coin_behind" = some (some (.ref f3))) (l3 : K.lookup f3 = some ⟨oc3, od3, .func (PySem.W.fnOf "is_coin_behind" "is_coin_behind" (defArgs s_is_coin_behind) (defBody s_is_coin_behind) (defScope s_is_coin_behind) .none kV3 dc3 pm3 an3 cd3 ct3), sl3⟩) (c3 : PySem.W.codeIn K cd3 "is_coin_behind" = true) (k3 : PySem.W.keepIn K (.ref f3) = true)
    {f4 : Addr} {od4 an4 : Option Addr} {sl4 : Array (Option Value)} {oc4 kV4 dc4 pm4 cd4 ct4 : Value}
    (a4 : PySem.W.nsIn K mainGlobals "first_wrong" = some (some (.ref f4))) (l4 : K.lookup f4 = some ⟨oc4, od4, .func (PySem.W.fnOf "first_wrong" "first_wrong" (defArgs s_first_wrong) (defBody s_first_wrong) (defScope s_first_wrong) .none kV4 dc4 pm4 an4 cd4 ct4), sl4⟩) (c4 : PySem.W.codeIn K cd4 "first_wrong" = true) (k4 : PySem.W.keepIn K (.ref f4) = true)
    {f5 : Addr} {od5 an5 : Option Addr} {sl5 : Array (Option Value)} {oc5 kV5 dc5 pm5 cd5 ct5 : Value}
    (a5 : PySem.W.nsIn K mainGlobals "wrong_coin" = some (some (.ref f5))) (l5 : K.lookup f5 = some ⟨oc5, od5, .func (PySem.W.fnOf "wrong_coin" "wrong_coin" (defArgs s_wrong_coin) (defBody s_wrong_coin) (defScope s_wrong_coin) .none kV5 dc5 pm5 an5 cd5 ct5), sl5⟩) (c5 : PySem.W.codeIn K cd5 "wrong_coin" = true) (k5 : PySem.W.keepIn K (.ref f5) = true)
    {f6 : Addr} {od6 an6 : Option Addr} {sl6 : Array (Option Value)} {oc6 kV6 dc6 pm6 cd6 ct6 : Value}
    (a6 : PySem.W.nsIn K mainGlobals "check_coins" = some (some (.ref f6))) (l6 : K.lookup f6 = some ⟨oc6, od6, .func (PySem.W.fnOf "check_coins" "check_coins" (defArgs s_check_coins) (defBody s_check_coins) (defScope s_check_coins) .none kV6 dc6 pm6 an6 cd6 ct6), sl6⟩) (c6 : PySem.W.codeIn K cd6 "check_coins" = true) (k6 : PySem.W.keepIn K (.ref f6) = true)
    {f7 : Addr} {od7 an7 : Option Addr} {sl7 : Array (Option Value)} {oc7 kV7 dc7 pm7 cd7 ct7 : Value}
    (a7 : PySem.W.nsIn K mainGlobals "is_amount" = some (some (.ref f7))) (l7 : K.lookup f7 = some ⟨oc7, od7, .func (PySem.W.fnOf "is_amount" "is_amount" (defArgs s_is_amount) (defBody s_is_amount) (defScope s_is_amount) .none kV7 dc7 pm7 an7 cd7 ct7), sl7⟩) (c7 : PySem.W.codeIn K cd7 "is_amount" = true) (k7 : PySem.W.keepIn K (.ref f7) = true)
    {f8 : Addr} {od8 an8 : Option Addr} {sl8 : Array (Option Value)} {oc8 kV8 dc8 pm8 cd8 ct8 : Value}
    (a8 : PySem.W.nsIn K mainGlobals "check_amount" = some (some (.ref f8))) (l8 : K.lookup f8 = some ⟨oc8, od8, .func (PySem.W.fnOf "check_amount" "check_amount" (defArgs s_check_amount) (defBody s_check_amount) (defScope s_check_amount) .none kV8 dc8 pm8 an8 cd8 ct8), sl8⟩) (c8 : PySem.W.codeIn K cd8 "check_amount" = true) (k8 : PySem.W.keepIn K (.ref f8) = true)
    {f9 : Addr} {od9 an9 : Option Addr} {sl9 : Array (Option Value)} {oc9 kV9 dc9 pm9 cd9 ct9 : Value}
    (a9 : PySem.W.nsIn K mainGlobals "fewest_to" = some (some (.ref f9))) (l9 : K.lookup f9 = some ⟨oc9, od9, .func (PySem.W.fnOf "fewest_to" "fewest_to" (defArgs s_fewest_to) (defBody s_fewest_to) (defScope s_fewest_to) .none kV9 dc9 pm9 an9 cd9 ct9), sl9⟩) (c9 : PySem.W.codeIn K cd9 "fewest_to" = true) (k9 : PySem.W.keepIn K (.ref f9) = true)
    {f10 : Addr} {od10 an10 : Option Addr} {sl10 : Array (Option Value)} {oc10 kV10 dc10 pm10 cd10 ct10 : Value}
    (a10 : PySem.W.nsIn K mainGlobals "check_paid" = some (some (.ref f10))) (l10 : K.lookup f10 = some ⟨oc10, od10, .func (PySem.W.fnOf "check_paid" "check_paid" (defArgs s_check_paid) (defBody s_check_paid) (defScope s_check_paid) .none kV10 dc10 pm10 an10 cd10 ct10), sl10⟩) (c10 : PySem.W.codeIn K cd10 "check_paid" = true) (k10 : PySem.W.keepIn K (.ref f10) = true)
    {f11 : Addr} {od11 an11 : Option Addr} {sl11 : Array (Option Value)} {oc11 kV11 dc11 pm11 cd11 ct11 : Value}
    (a11 : PySem.W.nsIn K mainGlobals "fewest_coins" = some (some (.ref f11))) (l11 : K.lookup f11 = some ⟨oc11, od11, .func (PySem.W.fnOf "fewest_coins" "fewest_coins" (defArgs s_fewest_coins) (defBody s_fewest_coins) (defScope s_fewest_coins) .none kV11 dc11 pm11 an11 cd11 ct11), sl11⟩) (c11 : PySem.W.codeIn K cd11 "fewest_coins" = true) (k11 : PySem.W.keepIn K (.ref f11) = true)
    {f12 : Addr} {od12 an12 : Option Addr} {sl12 : Array (Option Value)} {oc12 kV12 dc12 pm12 cd12 ct12 : Value}
    (a12 : PySem.W.nsIn K mainGlobals "common_of" = some (some (.ref f12))) (l12 : K.lookup f12 = some ⟨oc12, od12, .func (PySem.W.fnOf "common_of" "common_of" (defArgs s_common_of) (defBody s_common_of) (defScope s_common_of) .none kV12 dc12 pm12 an12 cd12 ct12), sl12⟩) (c12 : PySem.W.codeIn K cd12 "common_of" = true) (k12 : PySem.W.keepIn K (.ref f12) = true)
    {f13 : Addr} {od13 an13 : Option Addr} {sl13 : Array (Option Value)} {oc13 kV13 dc13 pm13 cd13 ct13 : Value}
    (a13 : PySem.W.nsIn K mainGlobals "first_paid" = some (some (.ref f13))) (l13 : K.lookup f13 = some ⟨oc13, od13, .func (PySem.W.fnOf "first_paid" "first_paid" (defArgs s_first_paid) (defBody s_first_paid) (defScope s_first_paid) .none kV13 dc13 pm13 an13 cd13 ct13), sl13⟩) (c13 : PySem.W.codeIn K cd13 "first_paid" = true) (k13 : PySem.W.keepIn K (.ref f13) = true)
    {f14 : Addr} {od14 an14 : Option Addr} {sl14 : Array (Option Value)} {oc14 kV14 dc14 pm14 cd14 ct14 : Value}
    (a14 : PySem.W.nsIn K mainGlobals "gap_by" = some (some (.ref f14))) (l14 : K.lookup f14 = some ⟨oc14, od14, .func (PySem.W.fnOf "gap_by" "gap_by" (defArgs s_gap_by) (defBody s_gap_by) (defScope s_gap_by) .none kV14 dc14 pm14 an14 cd14 ct14), sl14⟩) (c14 : PySem.W.codeIn K cd14 "gap_by" = true) (k14 : PySem.W.keepIn K (.ref f14) = true)
    {f15 : Addr} {od15 an15 : Option Addr} {sl15 : Array (Option Value)} {oc15 kV15 dc15 pm15 cd15 ct15 : Value}
    (a15 : PySem.W.nsIn K mainGlobals "last_gap" = some (some (.ref f15))) (l15 : K.lookup f15 = some ⟨oc15, od15, .func (PySem.W.fnOf "last_gap" "last_gap" (defArgs s_last_gap) (defBody s_last_gap) (defScope s_last_gap) .none kV15 dc15 pm15 an15 cd15 ct15), sl15⟩) (c15 : PySem.W.codeIn K cd15 "last_gap" = true) (k15 : PySem.W.keepIn K (.ref f15) = true)
    {f16 : Addr} {od16 an16 : Option Addr} {sl16 : Array (Option Value)} {oc16 kV16 dc16 pm16 cd16 ct16 : Value}
    (a16 : PySem.W.nsIn K mainGlobals "greedy_many" = some (some (.ref f16))) (l16 : K.lookup f16 = some ⟨oc16, od16, .func (PySem.W.fnOf "greedy_many" "greedy_many" (defArgs s_greedy_many) (defBody s_greedy_many) (defScope s_greedy_many) .none kV16 dc16 pm16 an16 cd16 ct16), sl16⟩) (c16 : PySem.W.codeIn K cd16 "greedy_many" = true) (k16 : PySem.W.keepIn K (.ref f16) = true)
    {f17 : Addr} {od17 an17 : Option Addr} {sl17 : Array (Option Value)} {oc17 kV17 dc17 pm17 cd17 ct17 : Value}
    (a17 : PySem.W.nsIn K mainGlobals "fault_by" = some (some (.ref f17))) (l17 : K.lookup f17 = some ⟨oc17, od17, .func (PySem.W.fnOf "fault_by" "fault_by" (defArgs s_fault_by) (defBody s_fault_by) (defScope s_fault_by) .none kV17 dc17 pm17 an17 cd17 ct17), sl17⟩) (c17 : PySem.W.codeIn K cd17 "fault_by" = true) (k17 : PySem.W.keepIn K (.ref f17) = true)
    {f18 : Addr} {od18 an18 : Option Addr} {sl18 : Array (Option Value)} {oc18 kV18 dc18 pm18 cd18 ct18 : Value}
    (a18 : PySem.W.nsIn K mainGlobals "check_with_one" = some (some (.ref f18))) (l18 : K.lookup f18 = some ⟨oc18, od18, .func (PySem.W.fnOf "check_with_one" "check_with_one" (defArgs s_check_with_one) (defBody s_check_with_one) (defScope s_check_with_one) .none kV18 dc18 pm18 an18 cd18 ct18), sl18⟩) (c18 : PySem.W.codeIn K cd18 "check_with_one" = true) (k18 : PySem.W.keepIn K (.ref f18) = true)
    {f19 : Addr} {od19 an19 : Option Addr} {sl19 : Array (Option Value)} {oc19 kV19 dc19 pm19 cd19 ct19 : Value}
    (a19 : PySem.W.nsIn K mainGlobals "first_fault" = some (some (.ref f19))) (l19 : K.lookup f19 = some ⟨oc19, od19, .func (PySem.W.fnOf "first_fault" "first_fault" (defArgs s_first_fault) (defBody s_first_fault) (defScope s_first_fault) .none kV19 dc19 pm19 an19 cd19 ct19), sl19⟩) (c19 : PySem.W.codeIn K cd19 "first_fault" = true) (k19 : PySem.W.keepIn K (.ref f19) = true)
    {f20 : Addr} {od20 an20 : Option Addr} {sl20 : Array (Option Value)} {oc20 kV20 dc20 pm20 cd20 ct20 : Value}
    (a20 : PySem.W.nsIn K mainGlobals "is_greedy" = some (some (.ref f20))) (l20 : K.lookup f20 = some ⟨oc20, od20, .func (PySem.W.fnOf "is_greedy" "is_greedy" (defArgs s_is_greedy) (defBody s_is_greedy) (defScope s_is_greedy) .none kV20 dc20 pm20 an20 cd20 ct20), sl20⟩) (c20 : PySem.W.codeIn K cd20 "is_greedy" = true) (k20 : PySem.W.keepIn K (.ref f20) = true)
    {f21 : Addr} {od21 an21 : Option Addr} {sl21 : Array (Option Value)} {oc21 kV21 dc21 pm21 cd21 ct21 : Value}
    (a21 : PySem.W.nsIn K mainGlobals "left_by" = some (some (.ref f21))) (l21 : K.lookup f21 = some ⟨oc21, od21, .func (PySem.W.fnOf "left_by" "left_by" (defArgs s_left_by) (defBody s_left_by) (defScope s_left_by) .none kV21 dc21 pm21 an21 cd21 ct21), sl21⟩) (c21 : PySem.W.codeIn K cd21 "left_by" = true) (k21 : PySem.W.keepIn K (.ref f21) = true)
    {f22 : Addr} {od22 an22 : Option Addr} {sl22 : Array (Option Value)} {oc22 kV22 dc22 pm22 cd22 ct22 : Value}
    (a22 : PySem.W.nsIn K mainGlobals "greatest_by" = some (some (.ref f22))) (l22 : K.lookup f22 = some ⟨oc22, od22, .func (PySem.W.fnOf "greatest_by" "greatest_by" (defArgs s_greatest_by) (defBody s_greatest_by) (defScope s_greatest_by) .none kV22 dc22 pm22 an22 cd22 ct22), sl22⟩) (c22 : PySem.W.codeIn K cd22 "greatest_by" = true) (k22 : PySem.W.keepIn K (.ref f22) = true)
    {f23 : Addr} {od23 an23 : Option Addr} {sl23 : Array (Option Value)} {oc23 kV23 dc23 pm23 cd23 ct23 : Value}
    (a23 : PySem.W.nsIn K mainGlobals "is_chain_by" = some (some (.ref f23))) (l23 : K.lookup f23 = some ⟨oc23, od23, .func (PySem.W.fnOf "is_chain_by" "is_chain_by" (defArgs s_is_chain_by) (defBody s_is_chain_by) (defScope s_is_chain_by) .none kV23 dc23 pm23 an23 cd23 ct23), sl23⟩) (c23 : PySem.W.codeIn K cd23 "is_chain_by" = true) (k23 : PySem.W.keepIn K (.ref f23) = true)
    {f24 : Addr} {od24 an24 : Option Addr} {sl24 : Array (Option Value)} {oc24 kV24 dc24 pm24 cd24 ct24 : Value}
    (a24 : PySem.W.nsIn K mainGlobals "amounts_in" = some (some (.ref f24))) (l24 : K.lookup f24 = some ⟨oc24, od24, .func (PySem.W.fnOf "amounts_in" "amounts_in" (defArgs s_amounts_in) (defBody s_amounts_in) (defScope s_amounts_in) .none kV24 dc24 pm24 an24 cd24 ct24), sl24⟩) (c24 : PySem.W.codeIn K cd24 "amounts_in" = true) (k24 : PySem.W.keepIn K (.ref f24) = true)
    {f25 : Addr} {od25 an25 : Option Addr} {sl25 : Array (Option Value)} {oc25 kV25 dc25 pm25 cd25 ct25 : Value}
    (a25 : PySem.W.nsIn K mainGlobals "first_in" = some (some (.ref f25))) (l25 : K.lookup f25 = some ⟨oc25, od25, .func (PySem.W.fnOf "first_in" "first_in" (defArgs s_first_in) (defBody s_first_in) (defScope s_first_in) .none kV25 dc25 pm25 an25 cd25 ct25), sl25⟩) (c25 : PySem.W.codeIn K cd25 "first_in" = true) (k25 : PySem.W.keepIn K (.ref f25) = true)
    {f26 : Addr} {od26 an26 : Option Addr} {sl26 : Array (Option Value)} {oc26 kV26 dc26 pm26 cd26 ct26 : Value}
    (a26 : PySem.W.nsIn K mainGlobals "all_parts" = some (some (.ref f26))) (l26 : K.lookup f26 = some ⟨oc26, od26, .func (PySem.W.fnOf "all_parts" "all_parts" (defArgs s_all_parts) (defBody s_all_parts) (defScope s_all_parts) .none kV26 dc26 pm26 an26 cd26 ct26), sl26⟩) (c26 : PySem.W.codeIn K cd26 "all_parts" = true) (k26 : PySem.W.keepIn K (.ref f26) = true)
    {f27 : Addr} {od27 an27 : Option Addr} {sl27 : Array (Option Value)} {oc27 kV27 dc27 pm27 cd27 ct27 : Value}
    (a27 : PySem.W.nsIn K mainGlobals "least_trap_by" = some (some (.ref f27))) (l27 : K.lookup f27 = some ⟨oc27, od27, .func (PySem.W.fnOf "least_trap_by" "least_trap_by" (defArgs s_least_trap_by) (defBody s_least_trap_by) (defScope s_least_trap_by) .none kV27 dc27 pm27 an27 cd27 ct27), sl27⟩) (c27 : PySem.W.codeIn K cd27 "least_trap_by" = true) (k27 : PySem.W.keepIn K (.ref f27) = true)
    {f28 : Addr} {od28 an28 : Option Addr} {sl28 : Array (Option Value)} {oc28 kV28 dc28 pm28 cd28 ct28 : Value}
    (a28 : PySem.W.nsIn K mainGlobals "is_chain" = some (some (.ref f28))) (l28 : K.lookup f28 = some ⟨oc28, od28, .func (PySem.W.fnOf "is_chain" "is_chain" (defArgs s_is_chain) (defBody s_is_chain) (defScope s_is_chain) .none kV28 dc28 pm28 an28 cd28 ct28), sl28⟩) (c28 : PySem.W.codeIn K cd28 "is_chain" = true) (k28 : PySem.W.keepIn K (.ref f28) = true)
    {f29 : Addr} {od29 an29 : Option Addr} {sl29 : Array (Option Value)} {oc29 kV29 dc29 pm29 cd29 ct29 : Value}
    (a29 : PySem.W.nsIn K mainGlobals "least_trap" = some (some (.ref f29))) (l29 : K.lookup f29 = some ⟨oc29, od29, .func (PySem.W.fnOf "least_trap" "least_trap" (defArgs s_least_trap) (defBody s_least_trap) (defScope s_least_trap) .none kV29 dc29 pm29 an29 cd29 ct29), sl29⟩) (c29 : PySem.W.codeIn K cd29 "least_trap" = true) (k29 : PySem.W.keepIn K (.ref f29) = true)
    {f30 : Addr} {od30 an30 : Option Addr} {sl30 : Array (Option Value)} {oc30 kV30 dc30 pm30 cd30 ct30 : Value}
    (a30 : PySem.W.nsIn K mainGlobals "_law_bag" = some (some (.ref f30))) (l30 : K.lookup f30 = some ⟨oc30, od30, .func (PySem.W.fnOf "_law_bag" "_law_bag" (defArgs s_law_bag) (defBody s_law_bag) (defScope s_law_bag) .none kV30 dc30 pm30 an30 cd30 ct30), sl30⟩) (c30 : PySem.W.codeIn K cd30 "_law_bag" = true) (k30 : PySem.W.keepIn K (.ref f30) = true)
    {f31 : Addr} {od31 an31 : Option Addr} {sl31 : Array (Option Value)} {oc31 kV31 dc31 pm31 cd31 ct31 : Value}
    (a31 : PySem.W.nsIn K mainGlobals "_law_take" = some (some (.ref f31))) (l31 : K.lookup f31 = some ⟨oc31, od31, .func (PySem.W.fnOf "_law_take" "_law_take" (defArgs s_law_take) (defBody s_law_take) (defScope s_law_take) .none kV31 dc31 pm31 an31 cd31 ct31), sl31⟩) (c31 : PySem.W.codeIn K cd31 "_law_take" = true) (k31 : PySem.W.keepIn K (.ref f31) = true)
    {f32 : Addr} {od32 an32 : Option Addr} {sl32 : Array (Option Value)} {oc32 kV32 dc32 pm32 cd32 ct32 : Value}
    (a32 : PySem.W.nsIn K mainGlobals "_law_pull" = some (some (.ref f32))) (l32 : K.lookup f32 = some ⟨oc32, od32, .func (PySem.W.fnOf "_law_pull" "_law_pull" (defArgs s_law_pull) (defBody s_law_pull) (defScope s_law_pull) .none kV32 dc32 pm32 an32 cd32 ct32), sl32⟩) (c32 : PySem.W.codeIn K cd32 "_law_pull" = true) (k32 : PySem.W.keepIn K (.ref f32) = true)
    {f33 : Addr} {od33 an33 : Option Addr} {sl33 : Array (Option Value)} {oc33 kV33 dc33 pm33 cd33 ct33 : Value}
    (a33 : PySem.W.nsIn K mainGlobals "_law_coins" = some (some (.ref f33))) (l33 : K.lookup f33 = some ⟨oc33, od33, .func (PySem.W.fnOf "_law_coins" "_law_coins" (defArgs s_law_coins) (defBody s_law_coins) (defScope s_law_coins) .none kV33 dc33 pm33 an33 cd33 ct33), sl33⟩) (c33 : PySem.W.codeIn K cd33 "_law_coins" = true) (k33 : PySem.W.keepIn K (.ref f33) = true)
    {f34 : Addr} {od34 an34 : Option Addr} {sl34 : Array (Option Value)} {oc34 kV34 dc34 pm34 cd34 ct34 : Value}
    (a34 : PySem.W.nsIn K mainGlobals "_law_with_one" = some (some (.ref f34))) (l34 : K.lookup f34 = some ⟨oc34, od34, .func (PySem.W.fnOf "_law_with_one" "_law_with_one" (defArgs s_law_with_one) (defBody s_law_with_one) (defScope s_law_with_one) .none kV34 dc34 pm34 an34 cd34 ct34), sl34⟩) (c34 : PySem.W.codeIn K cd34 "_law_with_one" = true) (k34 : PySem.W.keepIn K (.ref f34) = true)
    {f35 : Addr} {od35 an35 : Option Addr} {sl35 : Array (Option Value)} {oc35 kV35 dc35 pm35 cd35 ct35 : Value}
    (a35 : PySem.W.nsIn K mainGlobals "_law_greedily" = some (some (.ref f35))) (l35 : K.lookup f35 = some ⟨oc35, od35, .func (PySem.W.fnOf "_law_greedily" "_law_greedily" (defArgs s_law_greedily) (defBody s_law_greedily) (defScope s_law_greedily) .none kV35 dc35 pm35 an35 cd35 ct35), sl35⟩) (c35 : PySem.W.codeIn K cd35 "_law_greedily" = true) (k35 : PySem.W.keepIn K (.ref f35) = true)
    {f36 : Addr} {od36 an36 : Option Addr} {sl36 : Array (Option Value)} {oc36 kV36 dc36 pm36 cd36 ct36 : Value}
    (a36 : PySem.W.nsIn K mainGlobals "_law_chain" = some (some (.ref f36))) (l36 : K.lookup f36 = some ⟨oc36, od36, .func (PySem.W.fnOf "_law_chain" "_law_chain" (defArgs s_law_chain) (defBody s_law_chain) (defScope s_law_chain) .none kV36 dc36 pm36 an36 cd36 ct36), sl36⟩) (c36 : PySem.W.codeIn K cd36 "_law_chain" = true) (k36 : PySem.W.keepIn K (.ref f36) = true)
    {f37 : Addr} {od37 an37 : Option Addr} {sl37 : Array (Option Value)} {oc37 kV37 dc37 pm37 cd37 ct37 : Value}
    (a37 : PySem.W.nsIn K mainGlobals "_law_right" = some (some (.ref f37))) (l37 : K.lookup f37 = some ⟨oc37, od37, .func (PySem.W.fnOf "_law_right" "_law_right" (defArgs s_law_right) (defBody s_law_right) (defScope s_law_right) .none kV37 dc37 pm37 an37 cd37 ct37), sl37⟩) (c37 : PySem.W.codeIn K cd37 "_law_right" = true) (k37 : PySem.W.keepIn K (.ref f37) = true)
    {f38 : Addr} {od38 an38 : Option Addr} {sl38 : Array (Option Value)} {oc38 kV38 dc38 pm38 cd38 ct38 : Value}
    (a38 : PySem.W.nsIn K mainGlobals "law" = some (some (.ref f38))) (l38 : K.lookup f38 = some ⟨oc38, od38, .func (PySem.W.fnOf "law" "law" (defArgs s_law) (defBody s_law) (defScope s_law) .none kV38 dc38 pm38 an38 cd38 ct38), sl38⟩) (c38 : PySem.W.codeIn K cd38 "law" = true) (k38 : PySem.W.keepIn K (.ref f38) = true)
    {t0 : Tok} (e0 : PySem.W.nsIn K mainGlobals "MOST_COINS" = some (some (.int 3 t0)))
    {t1 : Tok} (e1 : PySem.W.nsIn K mainGlobals "MOST_VALUE" = some (some (.int 100 t1)))
    {t2 : Tok} (e2 : PySem.W.nsIn K mainGlobals "MOST_AMOUNT" = some (some (.int 2000 t2)))
    {t3 : Tok} (e3 : PySem.W.nsIn K mainGlobals "MOST_IN_TRAP" = some (some (.int 5 t3)))
    (y0 : PySem.W.nsIn K mainGlobals "gcd" = some (some (.builtin "math.gcd")))
    (z0 : PySem.W.nsIn K mainGlobals "len" = some none)
    (z1 : PySem.W.nsIn K mainGlobals "abs" = some none)
    (z2 : PySem.W.nsIn K mainGlobals "int" = some none)
    (z3 : PySem.W.nsIn K mainGlobals "divmod" = some none)
    (z4 : PySem.W.nsIn K mainGlobals "max" = some none)
    (z5 : PySem.W.nsIn K mainGlobals "min" = some none)
    (z6 : PySem.W.nsIn K mainGlobals "sum" = some none)
    (z7 : PySem.W.nsIn K mainGlobals "all" = some none)
    (z8 : PySem.W.nsIn K mainGlobals "any" = some none)
    (z9 : PySem.W.nsIn K mainGlobals "sorted" = some none)
    (z10 : PySem.W.nsIn K mainGlobals "tuple" = some none)
    (z11 : PySem.W.nsIn K mainGlobals "list" = some none)
    (z12 : PySem.W.nsIn K mainGlobals "repr" = some none)
    (z13 : PySem.W.nsIn K mainGlobals "bool" = some none)
    (z14 : PySem.W.nsIn K mainGlobals "str" = some none)
    (z15 : PySem.W.nsIn K mainGlobals "isinstance" = some none)
    (z16 : PySem.W.nsIn K mainGlobals "range" = some none)
    (z17 : PySem.W.nsIn K mainGlobals "zip" = some none)
    (z18 : PySem.W.nsIn K mainGlobals "enumerate" = some none)
    (z19 : PySem.W.nsIn K mainGlobals "set" = some none)
    : ∃ fd : FuncData, (∀ (s : Shared) (v : Value), BindsTo s fd ⟨[v], []⟩ [("script", v)]) ∧ ∀ base : Heap, K.In base → base.Ns mainGlobals mg → FnG P w K mg base 39 fa fd ["script"] (spL K) := by
  obtain ⟨fd, R, h1, h2, h3⟩ := facts (P := P) (w := w) X G hfa a0 l0 c0 k0 a1 l1 c1 k1 a2 l2 c2 k2 a3 l3 c3 k3 a4 l4 c4 k4 a5 l5 c5 k5 a6 l6 c6 k6 a7 l7 c7 k7 a8 l8 c8 k8 a9 l9 c9 k9 a10 l10 c10 k10 a11 l11 c11 k11 a12 l12 c12 k12 a13 l13 c13 k13 a14 l14 c14 k14 a15 l15 c15 k15 a16 l16 c16 k16 a17 l17 c17 k17 a18 l18 c18 k18 a19 l19 c19 k19 a20 l20 c20 k20 a21 l21 c21 k21 a22 l22 c22 k22 a23 l23 c23 k23 a24 l24 c24 k24 a25 l25 c25 k25 a26 l26 c26 k26 a27 l27 c27 k27 a28 l28 c28 k28 a29 l29 c29 k29 a30 l30 c30 k30 a31 l31 c31 k31 a32 l32 c32 k32 a33 l33 c33 k33 a34 l34 c34 k34 a35 l35 c35 k35 a36 l36 c36 k36 a37 l37 c37 k37 a38 l38 c38 k38 e0 e1 e2 e3 y0 z0 z1 z2 z3 z4 z5 z6 z7 z8 z9 z10 z11 z12 z13 z14 z15 z16 z17 z18 z19
  refine ⟨fd, h1, fun base b1 b2 => (h3 base b1 b2).imp fun vs H Q E ⟨a, ns, e1, e2, e3, e4⟩ => ?_⟩
  subst e1
  rw [← h2] at e2
  obtain ⟨C, args, g1, g2, g3⟩ := spF_law (H := H) e2 (law_ok ns e3)
  refine ⟨C, args, g1, g2, ?_⟩
  cases q : Ss.fn (gOf phs) fv fu 1 n_law.length b_law args with
  | bad => rw [q] at g3; exact g3
  | exc x o => rw [q] at g3; exact fun cls d L' H' E' S' xo => (g3 cls d L' H' E' S' xo).elim
  | ok r o =>
    rw [q] at g3
    intro v L' H' E' S' rv
    have e5 : v = .bl true := g3 v L' H' E' S' rv
    rw [e5]
    exact e4 H'
end K69
open PySem PySem.W PyProof.Rows
set_option maxHeartbeats 0 in
theorem PySem.Challenge.cw_changegiven_k69_whole_greedy_beside_chai_holds : PySem.Challenge.rw_changegiven_k69_whole_greedy_beside_chai.Holds := by
  w_on; o_law; k_head; (case hw => w_witness2)
  k_fill
  refine Pu.walk_ofG (l := PySem.Challenge.rw_changegiven_k69_whole_greedy_beside_chai) (n := 63) (k := 39) (x := "script") (sp := fun w => K69.spL _) rfl (by decide) rfl ⟨⟨rfl, by decide, by decide⟩, rfl⟩ (fun w h Y => PySem.W.kIn_of Y) ?F (fun _ _ a ns hl _ hS => ⟨a, ns, rfl, hS, hl, fun _ => rfl⟩)
  case F =>
    intro w mg fa h KX G hmg
    refine' K69.all_mk KX G hmg ?a0 ?l0 ?c0 ?k0 ?a1 ?l1 ?c1 ?k1 ?a2 ?l2 ?c2 ?k2 ?a3 ?l3 ?c3 ?k3 ?a4 ?l4 ?c4 ?k4 ?a5 ?l5 ?c5 ?k5 ?a6 ?l6 ?c6 ?k6 ?a7 ?l7 ?c7 ?k7 ?a8 ?l8 ?c8 ?k8 ?a9 ?l9 ?c9 ?k9 ?a10 ?l10 ?c10 ?k10 ?a11 ?l11 ?c11 ?k11 ?a12 ?l12 ?c12 ?k12 ?a13 ?l13 ?c13 ?k13 ?a14 ?l14 ?c14 ?k14 ?a15 ?l15 ?c15 ?k15 ?a16 ?l16 ?c16 ?k16 ?a17 ?l17 ?c17 ?k17 ?a18 ?l18 ?c18 ?k18 ?a19 ?l19 ?c19 ?k19 ?a20 ?l20 ?c20 ?k20 ?a21 ?l21 ?c21 ?k21 ?a22 ?l22 ?c22 ?k22 ?a23 ?l23 ?c23 ?k23 ?a24 ?l24 ?c24 ?k24 ?a25 ?l25 ?c25 ?k25 ?a26 ?l26 ?c26 ?k26 ?a27 ?l27 ?c27 ?k27 ?a28 ?l28 ?c28 ?k28 ?a29 ?l29 ?c29 ?k29 ?a30 ?l30 ?c30 ?k30 ?a31 ?l31 ?c31 ?k31 ?a32 ?l32 ?c32 ?k32 ?a33 ?l33 ?c33 ?k33 ?a34 ?l34 ?c34 ?k34 ?a35 ?l35 ?c35 ?k35 ?a36 ?l36 ?c36 ?k36 ?a37 ?l37 ?c37 ?k37 ?a38 ?l38 ?c38 ?k38 ?e0 ?e1 ?e2 ?e3 ?y0 ?z0 ?z1 ?z2 ?z3 ?z4 ?z5 ?z6 ?z7 ?z8 ?z9 ?z10 ?z11 ?z12 ?z13 ?z14 ?z15 ?z16 ?z17 ?z18 ?z19
    (case a0 => k_is); (case l0 => k_is); (case c0 => k_is); (case k0 => k_is); (case a1 => k_is); (case l1 => k_is); (case c1 => k_is); (case k1 => k_is); (case a2 => k_is); (case l2 => k_is); (case c2 => k_is); (case k2 => k_is); (case a3 => k_is); (case l3 => k_is); (case c3 => k_is); (case k3 => k_is); (case a4 => k_is); (case l4 => k_is); (case c4 => k_is); (case k4 => k_is); (case a5 => k_is); (case l5 => k_is); (case c5 => k_is); (case k5 => k_is); (case a6 => k_is); (case l6 => k_is); (case c6 => k_is); (case k6 => k_is); (case a7 => k_is); (case l7 => k_is); (case c7 => k_is); (case k7 => k_is); (case a8 => k_is); (case l8 => k_is); (case c8 => k_is); (case k8 => k_is); (case a9 => k_is); (case l9 => k_is); (case c9 => k_is); (case k9 => k_is); (case a10 => k_is); (case l10 => k_is); (case c10 => k_is); (case k10 => k_is); (case a11 => k_is); (case l11 => k_is); (case c11 => k_is); (case k11 => k_is); (case a12 => k_is); (case l12 => k_is); (case c12 => k_is); (case k12 => k_is); (case a13 => k_is); (case l13 => k_is); (case c13 => k_is); (case k13 => k_is); (case a14 => k_is); (case l14 => k_is); (case c14 => k_is); (case k14 => k_is); (case a15 => k_is); (case l15 => k_is); (case c15 => k_is); (case k15 => k_is); (case a16 => k_is); (case l16 => k_is); (case c16 => k_is); (case k16 => k_is); (case a17 => k_is); (case l17 => k_is); (case c17 => k_is); (case k17 => k_is); (case a18 => k_is); (case l18 => k_is); (case c18 => k_is); (case k18 => k_is); (case a19 => k_is); (case l19 => k_is); (case c19 => k_is); (case k19 => k_is); (case a20 => k_is); (case l20 => k_is); (case c20 => k_is); (case k20 => k_is); (case a21 => k_is); (case l21 => k_is); (case c21 => k_is); (case k21 => k_is); (case a22 => k_is); (case l22 => k_is); (case c22 => k_is); (case k22 => k_is); (case a23 => k_is); (case l23 => k_is); (case c23 => k_is); (case k23 => k_is); (case a24 => k_is); (case l24 => k_is); (case c24 => k_is); (case k24 => k_is); (case a25 => k_is); (case l25 => k_is); (case c25 => k_is); (case k25 => k_is); (case a26 => k_is); (case l26 => k_is); (case c26 => k_is); (case k26 => k_is); (case a27 => k_is); (case l27 => k_is); (case c27 => k_is); (case k27 => k_is); (case a28 => k_is); (case l28 => k_is); (case c28 => k_is); (case k28 => k_is); (case a29 => k_is); (case l29 => k_is); (case c29 => k_is); (case k29 => k_is); (case a30 => k_is); (case l30 => k_is); (case c30 => k_is); (case k30 => k_is); (case a31 => k_is); (case l31 => k_is); (case c31 => k_is); (case k31 => k_is); (case a32 => k_is); (case l32 => k_is); (case c32 => k_is); (case k32 => k_is); (case a33 => k_is); (case l33 => k_is); (case c33 => k_is); (case k33 => k_is); (case a34 => k_is); (case l34 => k_is); (case c34 => k_is); (case k34 => k_is); (case a35 => k_is); (case l35 => k_is); (case c35 => k_is); (case k35 => k_is); (case a36 => k_is); (case l36 => k_is); (case c36 => k_is); (case k36 => k_is); (case a37 => k_is); (case l37 => k_is); (case c37 => k_is); (case k37 => k_is); (case a38 => k_is); (case l38 => k_is); (case c38 => k_is); (case k38 => k_is); (case e0 => k_is); (case e1 => k_is); (case e2 => k_is); (case e3 => k_is); (case y0 => k_is); (case z0 => k_is); (case z1 => k_is); (case z2 => k_is); (case z3 => k_is); (case z4 => k_is); (case z5 => k_is); (case z6 => k_is); (case z7 => k_is); (case z8 => k_is); (case z9 => k_is); (case z10 => k_is); (case z11 => k_is); (case z12 => k_is); (case z13 => k_is); (case z14 => k_is); (case z15 => k_is); (case z16 => k_is); (case z17 => k_is); (case z18 => k_is); (case z19 => k_is)
