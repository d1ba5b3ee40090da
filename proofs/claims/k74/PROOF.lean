import PyProof.Rows.All
import Wide.All
import OpenK.AllK
import Wide.FinOn
import HandS.ForMost
import HandS.ForExc
import HandS.Defaults
import HandS.CallSlots
import HandS.Property
import HandS.OwnEq
import HandS.IsInst
import HandS.Gcd
import HandS.Wide
import HandS.TupLe
import HandS.TupAny
import HandS.MakeKwOnly
import HandS.ClsMeth
import KE.KOpsOwn
import HandS.SlotsOwn
import HandS.Walk
import HandS.Comp
import HandS.Rev
import HandS.Zip
import KE.KStateDown
import HandS.Ends
import HandS.More
import HandS.Words
import HandS.WordsExc
import HandS.Head0
import HandS.Head1
import HandS.Head2
import HandS.Head3
import HandS.HeadEnd
import HandS.HeadHook1
import HandS.HeadHook2
import HandS.Codes
import KE.DatumOrd
import HandS.EndBits
import PySem.Challenge.RW_certsums_k74_different_rows_accepted
set_option Elab.async false
set_option linter.all false
set_option maxRecDepth 100000
set_option autoImplicit false
namespace Ce
open PySem PySem.Spec PyProof.Rows L2 Ce

/-- a deep value: what a frozen object says -/
inductive D where
  | non | bl (b : Bool) | int (i : Int) | str (s : Str) | raw (v : V)
  | lst (xs : List D) | tup (xs : List D) | ins (c : Nat) (fs : List D)

/-- what a slot holds: a frozen value, or an object that this slot alone owns -/
inductive O where
  | im (d : D) | ol (xs : List D) | oi (c : Nat) (fs : List D)

/-- the classes by number: where each stands, its fields in the order in which they are stored -/
structure Ct where
  cl : Nat → Addr
  fl : Nat → List Str

/-- values of other kinds -/
def raws : V → Bool
  | .byt _ => true
  | .flt _ => true
  | .ty _ => true
  | _ => false
mutual
inductive Is (K : PySem.W.Frag) (T : Ct) (F : Hp) : V → D → Prop
  | non : Is K T F .non .non
  | bl (b : Bool) : Is K T F (.bl b) (.bl b)
  | int (i : Int) : Is K T F (.int i) (.int i)
  | str (s : Str) : Is K T F (.str s) (.str s)
  | raw (v : V) (h : raws v = true) : Is K T F v (.raw v)
  | lst {a : Addr} {vs : List V} {ds : List D} (h : SqL K F a vs) (l : IsL K T F vs ds) : Is K T F (.ref a) (.lst ds)
  | tup {a : Addr} {vs : List V} {ds : List D} (h : SqT K F a vs) (l : IsL K T F vs ds) : Is K T F (.ref a) (.tup ds)
  | ins {a dx : Addr} {c : Nat} {fs : List (Str × V)} {ds : List D} (h : F a = some (.ins (T.cl c) dx fs)) (n : fs.map (·.1) = T.fl c) (l : IsL K T F (fs.map (·.2)) ds) : Is K T F (.ref a) (.ins c ds)
inductive IsL (K : PySem.W.Frag) (T : Ct) (F : Hp) : List V → List D → Prop
  | nil : IsL K T F [] []
  | cons {v : V} {d : D} {vs : List V} {ds : List D} (h : Is K T F v d) (l : IsL K T F vs ds) : IsL K T F (v :: vs) (d :: ds)
end

section
variable {K : PySem.W.Frag} {T : Ct} {F F' H H' B : Hp}

theorem same_seq {K : PySem.W.Frag} {H H' : Hp} {a : Addr} {xs : List V} (e : Same H H') (h : SqT K H a xs) : SqT K H' a xs := by
  rcases h with (h | ⟨o, h⟩) | h
  · exact .inl (.inl (e _ _ h))
  · exact .inl (.inr ⟨o, e _ _ h⟩)
  · exact .inr h

mutual
theorem Is.mono (g : Same F F') : ∀ {v : V} {d : D}, Is K T F v d → Is K T F' v d
  | _, _, .non => .non
  | _, _, .bl b => .bl b
  | _, _, .int i => .int i
  | _, _, .str s => .str s
  | _, _, .raw v h => .raw v h
  | _, _, .lst h l => .lst (g.seq h) (IsL.mono g l)
  | _, _, .tup h l => .tup (same_seq g h) (IsL.mono g l)
  | _, _, .ins h n l => .ins (g _ _ h) n (IsL.mono g l)
theorem IsL.mono (g : Same F F') : ∀ {vs : List V} {ds : List D}, IsL K T F vs ds → IsL K T F' vs ds
  | _, _, .nil => .nil
  | _, _, .cons h l => .cons (Is.mono g h) (IsL.mono g l)
end

theorem IsL.length : ∀ {vs : List V} {ds : List D}, IsL K T F vs ds → vs.length = ds.length
  | _, _, .nil => rfl
  | _, _, .cons _ l => congrArg (· + 1) (IsL.length l)
theorem IsL.get : ∀ {vs : List V} {ds : List D} {i : Nat} {d : D}, IsL K T F vs ds → ds[i]? = some d → ∃ v, vs[i]? = some v ∧ Is K T F v d
  | _, _, _, _, .nil, e => by simp at e
  | _, _, 0, _, .cons h l, e => by simp at e; subst e; exact ⟨_, rfl, h⟩
  | _, _, i + 1, d, .cons h l, e => by
    obtain ⟨v, h1, h2⟩ := IsL.get (i := i) (d := d) l (by simpa using e)
    exact ⟨v, by simpa using h1, h2⟩
theorem IsL.getV : ∀ {vs : List V} {ds : List D} {i : Nat} {v : V}, IsL K T F vs ds → vs[i]? = some v → ∃ d, ds[i]? = some d ∧ Is K T F v d
  | _, _, _, _, .nil, e => by simp at e
  | _, _, 0, _, .cons h l, e => by simp at e; subst e; exact ⟨_, rfl, h⟩
  | _, _, i + 1, d, .cons h l, e => by
    obtain ⟨v, h1, h2⟩ := IsL.getV (i := i) (v := d) l (by simpa using e)
    exact ⟨v, by simpa using h1, h2⟩
theorem IsL.append : ∀ {vs ws : List V} {ds es : List D}, IsL K T F vs ds → IsL K T F ws es → IsL K T F (vs ++ ws) (ds ++ es)
  | _, _, _, _, .nil, s => s
  | _, _, _, _, .cons r t, s => .cons r (IsL.append t s)
theorem IsL.take : ∀ {vs : List V} {ds : List D} (n : Nat), IsL K T F vs ds → IsL K T F (vs.take n) (ds.take n)
  | _, _, 0, _ => by simpa using IsL.nil
  | _, _, _ + 1, .nil => by simpa using IsL.nil
  | _, _, n + 1, .cons r t => by simpa using IsL.cons r (IsL.take n t)
theorem IsL.drop : ∀ {vs : List V} {ds : List D} (n : Nat), IsL K T F vs ds → IsL K T F (vs.drop n) (ds.drop n)
  | _, _, 0, r => r
  | _, _, _ + 1, .nil => by simpa using IsL.nil
  | _, _, n + 1, .cons _ t => by simpa using IsL.drop n t
theorem IsL.set {x : V} {d : D} (r : Is K T F x d) : ∀ {vs : List V} {ds : List D} (i : Nat), IsL K T F vs ds → IsL K T F (vs.set i x) (ds.set i d)
  | _, _, _, .nil => .nil
  | _, _, 0, .cons _ t => .cons r t
  | _, _, i + 1, .cons q t => .cons q (IsL.set r i t)
theorem IsL.reverse : ∀ {vs : List V} {ds : List D}, IsL K T F vs ds → IsL K T F vs.reverse ds.reverse
  | _, _, .nil => .nil
  | _, _, .cons r t => by simpa using (IsL.reverse t).append (.cons r .nil)
theorem IsL.rep {vs : List V} {ds : List D} (h : IsL K T F vs ds) : ∀ n : Nat, IsL K T F (List.replicate n vs).flatten (List.replicate n ds).flatten
  | 0 => by simpa using IsL.nil
  | n + 1 => by simpa [List.replicate_succ] using h.append (IsL.rep h n)
theorem IsL.dropLast {vs : List V} {ds : List D} (h : IsL K T F vs ds) : IsL K T F vs.dropLast ds.dropLast := by
  rw [List.dropLast_eq_take, List.dropLast_eq_take, h.length]
  exact h.take _

/-- an owned object, the addresses that it owns -/
inductive Own (K : PySem.W.Frag) (T : Ct) (F H : Hp) : V → O → List Addr → Prop
  | im {v : V} {d : D} (h : Is K T F v d) : Own K T F H v (.im d) []
  | ol {a : Addr} {vs : List V} {ds : List D} (h : H a = some (.lst vs)) (l : IsL K T F vs ds) : Own K T F H (.ref a) (.ol ds) [a]
  | oi {a dx : Addr} {c : Nat} {fs : List (Str × V)} {ds : List D} (h : H a = some (.ins (T.cl c) dx fs)) (n : fs.map (·.1) = (T.fl c).take ds.length) (l : IsL K T F (fs.map (·.2)) ds) : Own K T F H (.ref a) (.oi c ds) [a]

theorem Own.mono {v : V} {o : O} {fp : List Addr} (g : Same F F') (k : ∀ a ∈ fp, ∀ u, H a = some u → H' a = some u) (h : Own K T F H v o fp) : Own K T F' H' v o fp := by
  cases h with
  | im h => exact .im (h.mono g)
  | ol h l => exact .ol (k _ (by simp) _ h) (l.mono g)
  | oi h n l => exact .oi (k _ (by simp) _ h) n (l.mono g)
theorem Own.there {v : V} {o : O} {fp : List Addr} (h : Own K T F H v o fp) : ∀ a ∈ fp, ∃ u, H a = some u := by
  cases h with
  | im h => intro a ha; cases ha
  | ol h l => intro a ha; simp at ha; subst ha; exact ⟨_, h⟩
  | oi h n l => intro a ha; simp at ha; subst ha; exact ⟨_, h⟩
end

section
variable {K : PySem.W.Frag} {T : Ct} {F H : Hp}
theorem Own.imI {v : V} {d : D} {fp : List Addr} (h : Own K T F H v (.im d) fp) : Is K T F v d := by
  cases h with
  | im h => exact h
theorem Own.olI {v : V} {ds : List D} {fp : List Addr} (h : Own K T F H v (.ol ds) fp) : ∃ a vs, v = .ref a ∧ fp = [a] ∧ H a = some (.lst vs) ∧ IsL K T F vs ds := by
  cases h with
  | ol h l => exact ⟨_, _, rfl, rfl, h, l⟩
theorem Own.oiI {v : V} {c : Nat} {ds : List D} {fp : List Addr} (h : Own K T F H v (.oi c ds) fp) : ∃ a dx fs, v = .ref a ∧ fp = [a] ∧ H a = some (.ins (T.cl c) dx fs) ∧ fs.map (·.1) = (T.fl c).take ds.length ∧ IsL K T F (fs.map (·.2)) ds := by
  cases h with
  | oi h n l => exact ⟨_, _, _, rfl, rfl, h, n, l⟩
theorem Own.fp_eq {a : Addr} {o : O} {fp : List Addr} (h : Own K T F H (.ref a) o [a]) (h' : Own K T F H (.ref a) o fp) : fp = [a] := by
  cases o with
  | im d => cases h
  | ol ds => obtain ⟨b, _, e, f, _⟩ := h'.olI; cases e; exact f
  | oi c ds => obtain ⟨b, _, _, e, f, _⟩ := h'.oiI; cases e; exact f
def fset (φ : Nat → List Addr) (i : Nat) (fp : List Addr) : Nat → List Addr := fun j => if j = i then fp else φ j
theorem fset_same {φ : Nat → List Addr} {i : Nat} {fp : List Addr} : fset φ i fp i = fp := if_pos rfl
theorem fset_ne {φ : Nat → List Addr} {i j : Nat} {fp : List Addr} (h : j ≠ i) : fset φ i fp j = φ j := if_neg h
end

/-- the slots' deep values -/
abbrev En := List (Option O)
/-- an exception of the program: its class, its fields -/
structure Xn where
  c : Nat
  as : List D
inductive Out (α : Type) where
  | ok (a : α) (ρ : En)
  | ex (x : Xn) (ρ : En)
  | er
def Out.bind {α β : Type} (r : Out α) (k : α → En → Out β) : Out β := match r with
  | .ok a ρ => k a ρ
  | .ex x ρ => .ex x ρ
  | .er => .er

/-- the state: B is kept, F is frozen, the slots' values -/
structure Wd (K : PySem.W.Frag) (T : Ct) (B F H : Hp) (σ : L2.St) (ρ : En) : Prop where
  b : Same B H
  f : Same F H
  l : σ.length = ρ.length
  o : ∃ φ : Nat → List Addr, (∀ i o, ρ[i]? = some (some o) → ∃ v, σ[i]? = some (some v) ∧ Own K T F H v o (φ i)) ∧ (∀ i j a, a ∈ φ i → a ∈ φ j → i = j) ∧ ∀ i a, a ∈ φ i → (∃ o, ρ[i]? = some (some o)) ∧ F a = none ∧ B a = none
/-- what is frozen has grown, by new things -/
structure Gw (B F F' : Hp) : Prop where
  s : Same F F'
  n : ∀ a o, F' a = some o → F a = some o ∨ B a = none

section
variable {K : PySem.W.Frag} {T : Ct} {B B' F F' F2 H H' : Hp} {σ σ' : L2.St} {ρ ρ' : En} {v : V} {d : D} {a : Addr} {u : HO} {i : Nat} {o : O}
theorem Gw.refl : Gw B F F := ⟨Same.refl F, fun _ _ h => .inl h⟩
theorem Gw.trans (g : Gw B F F') (h : Gw B F' F2) : Gw B F F2 := ⟨g.s.trans h.s, fun a o e => (h.n a o e).elim (g.n a o) .inr⟩
theorem Gw.less (g : Gw B' F F') (h : Same B B') : Gw B F F' := ⟨g.s, fun a o e => (g.n a o e).imp id fun z => h.free z⟩
theorem Wd.less (w : Wd K T B' F H σ ρ) (h : Same B B') : Wd K T B F H σ ρ := by
  obtain ⟨φ, h1, h2, h3⟩ := w.o
  exact ⟨h.trans w.b, w.f, w.l, φ, h1, h2, fun i a m => ⟨(h3 i a m).1, (h3 i a m).2.1, h.free (h3 i a m).2.2⟩⟩
theorem Wd.nofree (w : Wd K T B F H σ ρ) (h : H a = none) : F a = none ∧ B a = none := ⟨w.f.free h, w.b.free h⟩
/-- a slot's frozen value -/
theorem Wd.get (w : Wd K T B F H σ ρ) (h : ρ[i]? = some (some (.im d))) : ∃ v, σ[i]? = some (some v) ∧ Is K T F v d := by
  obtain ⟨φ, h1, _, _⟩ := w.o
  obtain ⟨v, e, q⟩ := h1 i _ h
  exact ⟨v, e, q.imI⟩
theorem Wd.own (w : Wd K T B F H σ ρ) (h : ρ[i]? = some (some o)) : ∃ v fp, σ[i]? = some (some v) ∧ Own K T F H v o fp ∧ ∀ a ∈ fp, F a = none ∧ B a = none := by
  obtain ⟨φ, h1, _, h3⟩ := w.o
  obtain ⟨v, e, q⟩ := h1 i _ h
  exact ⟨v, _, e, q, fun a m => (h3 i a m).2⟩
theorem same_upd (h : H a = none) : Same H (upd H a u) := fun b o e => by rw [upd_ne (ne_of_none e h)]; exact e
theorem same_upd2 (h : Same F H) : Same (upd F a u) (upd H a u) := fun b o e => by
  by_cases z : b = a
  · subst z; rw [upd_same] at e ⊢; exact e
  · rw [upd_ne z] at e ⊢; exact h _ _ e
/-- the state behind any growth of what is frozen and of the heap -/
theorem Wd.grow (w : Wd K T B F H σ ρ) (g : Gw B F F') (b : Same B H') (f : Same F' H') (k : ∀ a u, H a = some u → F a = none → B a = none → H' a = some u) (n : ∀ a o, F' a = some o → F a = some o ∨ H a = none) : Wd K T B F' H' σ ρ := by
  refine ⟨b, f, w.l, ?_⟩
  obtain ⟨φ, h1, h2, h3⟩ := w.o
  refine ⟨φ, fun i o e => ?_, h2, fun i a m => ?_⟩
  · obtain ⟨v, e1, q⟩ := h1 i o e
    exact ⟨v, e1, q.mono g.s fun a m u hu => k a u hu (h3 i a m).2.1 (h3 i a m).2.2⟩
  · obtain ⟨⟨o, e⟩, hf, hb⟩ := h3 i a m
    refine ⟨⟨o, e⟩, ?_, hb⟩
    obtain ⟨v, _, q⟩ := h1 i o e
    obtain ⟨u, hu⟩ := q.there a m
    cases z : F' a with
    | none => rfl
    | some y =>
      rcases n a y z with z | z
      · rw [hf] at z; cases z
      · rw [hu] at z; cases z
/-- a new object that is frozen -/
theorem Wd.new (w : Wd K T B F H σ ρ) (h : H a = none) : Gw B F (upd F a u) ∧ Wd K T B (upd F a u) (upd H a u) σ ρ := by
  obtain ⟨hf, hb⟩ := w.nofree h
  have g : Gw B F (upd F a u) := ⟨same_upd hf, fun b o e => by
    by_cases z : b = a
    · subst z; exact .inr hb
    · rw [upd_ne z] at e; exact .inl e⟩
  refine ⟨g, w.grow g (w.b.trans (same_upd h)) (same_upd2 w.f) (fun b u e _ _ => same_upd h _ _ e) fun b o e => ?_⟩
  by_cases z : b = a
  · subst z; exact .inr h
  · rw [upd_ne z] at e; exact .inl e
/-- a new object that is not frozen, nor anyone's -/
theorem Wd.loose (w : Wd K T B F H σ ρ) (h : H a = none) : Wd K T B F (upd H a u) σ ρ :=
  w.grow Gw.refl (w.b.trans (same_upd h)) (w.f.trans (same_upd h)) (fun b u e _ _ => same_upd h _ _ e) fun b o e => .inl e
/-- a slot is given an owned object of new addresses -/
theorem Wd.put (w : Wd K T B F H σ ρ) {fp : List Addr} (q : Own K T F H v o fp) (hi : i < σ.length) (n : ∀ a ∈ fp, F a = none ∧ B a = none) (m : ∀ j a, a ∈ fp → j ≠ i → ∀ o w fq, ρ[j]? = some (some o) → σ[j]? = some (some w) → Own K T F H w o fq → a ∉ fq) :
    Wd K T B F H (σ.set i (some v)) (ρ.set i (some o)) := by
  obtain ⟨φ, h1, h2, h3⟩ := w.o
  refine ⟨w.b, w.f, by simpa using w.l, ?_⟩
  by_cases hr : i < ρ.length
  · refine ⟨fset φ i fp, fun j o' e => ?_, fun j k a => ?_, fun j a => ?_⟩
    · by_cases z : j = i
      · subst z
        rw [List.getElem?_set_self hr] at e
        cases e
        exact ⟨v, List.getElem?_set_self hi, by rw [fset_same]; exact q⟩
      · rw [List.getElem?_set_ne (Ne.symm z)] at e
        obtain ⟨x, e1, q1⟩ := h1 j o' e
        exact ⟨x, by rw [List.getElem?_set_ne (Ne.symm z)]; exact e1, by rw [fset_ne z]; exact q1⟩
    · by_cases z : j = i
      · subst z
        rw [fset_same]
        by_cases y : k = j
        · intro _ _; exact y.symm
        · rw [fset_ne y]
          intro m1 m2
          obtain ⟨⟨o', e⟩, _⟩ := h3 k a m2
          obtain ⟨x, e1, q1⟩ := h1 k o' e
          exact absurd m2 (m k a m1 y o' x _ e e1 q1)
      · rw [fset_ne z]
        by_cases y : k = i
        · subst y
          rw [fset_same]
          intro m1 m2
          obtain ⟨⟨o', e⟩, _⟩ := h3 j a m1
          obtain ⟨x, e1, q1⟩ := h1 j o' e
          exact absurd m1 (m j a m2 z o' x _ e e1 q1)
        · rw [fset_ne y]; exact h2 j k a
    · by_cases z : j = i
      · subst z
        rw [fset_same]
        intro m1
        exact ⟨⟨o, List.getElem?_set_self hr⟩, n a m1⟩
      · rw [fset_ne z]
        intro m1
        obtain ⟨⟨o', e⟩, z2⟩ := h3 j a m1
        exact ⟨⟨o', by rw [List.getElem?_set_ne (Ne.symm z)]; exact e⟩, z2⟩
  · rw [List.set_eq_of_length_le (by omega)]
    refine ⟨φ, fun j o' e => ?_, h2, h3⟩
    have hj : j < ρ.length := (List.getElem?_eq_some_iff.mp e).1
    obtain ⟨x, e1, q1⟩ := h1 j o' e
    exact ⟨x, by rw [List.getElem?_set_ne (by omega)]; exact e1, q1⟩
/-- .. a frozen value -/
theorem Wd.putIm (w : Wd K T B F H σ ρ) (q : Is K T F v d) (hi : i < σ.length) : Wd K T B F H (σ.set i (some v)) (ρ.set i (some (.im d))) :=
  w.put (.im q) hi (fun a m => by cases m) fun j a m => by cases m
/-- a slot's new content, at the address that it owns -/
theorem Wd.turn (w : Wd K T B F H σ ρ) {a : Addr} {o o' : O} {u : HO} (e : ρ[i]? = some (some o)) (ev : σ[i]? = some (some (.ref a))) (q : Own K T F H (.ref a) o [a]) (q' : Own K T F (upd H a u) (.ref a) o' [a]) :
    Wd K T B F (upd H a u) σ (ρ.set i (some o')) := by
  obtain ⟨φ, h1, h2, h3⟩ := w.o
  have hr : i < ρ.length := (List.getElem?_eq_some_iff.mp e).1
  have ea : φ i = [a] := by
    obtain ⟨x, e1, q1⟩ := h1 i o e
    rw [ev] at e1
    cases e1
    exact q.fp_eq q1
  have ai : a ∈ φ i := by rw [ea]; simp
  obtain ⟨_, fa, ba⟩ := h3 i a ai
  have k : ∀ b u', b ≠ a → H b = some u' → (upd H a u) b = some u' := fun b u' n e => by rw [upd_ne n]; exact e
  refine ⟨fun b u' z => k b u' (ne_of_none z ba) (w.b _ _ z), fun b u' z => k b u' (ne_of_none z fa) (w.f _ _ z), by simpa using w.l, φ, fun j o2 e2 => ?_, h2, fun j b m => ?_⟩
  · by_cases z : j = i
    · subst z
      rw [List.getElem?_set_self hr] at e2
      cases e2
      exact ⟨_, ev, by rw [ea]; exact q'⟩
    · rw [List.getElem?_set_ne (Ne.symm z)] at e2
      obtain ⟨x, e1, q1⟩ := h1 j o2 e2
      refine ⟨x, e1, q1.mono (Same.refl F) fun b m u' hu => k b u' ?_ hu⟩
      rintro rfl
      exact z (h2 j i b m ai)
  · obtain ⟨⟨o2, e2⟩, z⟩ := h3 j b m
    refine ⟨?_, z⟩
    by_cases y : j = i
    · subst y; exact ⟨o', List.getElem?_set_self hr⟩
    · exact ⟨o2, by rw [List.getElem?_set_ne (Ne.symm y)]; exact e2⟩
/-- a slot forgotten -/
theorem Wd.drop (w : Wd K T B F H σ ρ) (i : Nat) (x : Option V) : Wd K T B F H (σ.set i x) (ρ.set i none) := by
  obtain ⟨φ, h1, h2, h3⟩ := w.o
  have ne : ∀ j o, (ρ.set i none)[j]? = some (some o) → j ≠ i ∧ ρ[j]? = some (some o) := fun j o e => by
    by_cases z : i = j
    · subst z
      by_cases hl : i < ρ.length
      · rw [List.getElem?_set_self hl] at e; cases e
      · rw [List.getElem?_eq_none (by simpa using hl)] at e; cases e
    · rw [List.getElem?_set_ne z] at e
      exact ⟨Ne.symm z, e⟩
  refine ⟨w.b, w.f, by simpa using w.l, fset φ i [], fun j o e => ?_, fun j k a => ?_, fun j a => ?_⟩
  · obtain ⟨z, e⟩ := ne j o e
    obtain ⟨v, e1, q⟩ := h1 j o e
    exact ⟨v, by rw [List.getElem?_set_ne (Ne.symm z)]; exact e1, by rw [fset_ne z]; exact q⟩
  · by_cases z : j = i
    · subst z; rw [fset_same]; intro m; cases m
    · rw [fset_ne z]
      by_cases y : k = i
      · subst y; rw [fset_same]; intro _ m; cases m
      · rw [fset_ne y]; exact h2 j k a
  · by_cases z : j = i
    · subst z; rw [fset_same]; intro m; cases m
    · rw [fset_ne z]
      intro m
      obtain ⟨⟨o, e⟩, y⟩ := h3 j a m
      exact ⟨⟨o, by rw [List.getElem?_set_ne (Ne.symm z)]; exact e⟩, y⟩
end
end Ce
namespace Ce
open PySem PySem.Spec PyProof.Rows L2 Ce

/-- how an exception lies -/
def ExIs (K : PySem.W.Frag) (T : Ct) (F H : Hp) (c : Value) (dd : Option Addr) (x : Xn) : Prop :=
  c = .ref (T.cl x.c) ∧ ((dd = none ∧ x.as = []) ∨ ∃ d vs, dd = some d ∧ H d = some (.xd ((T.fl x.c).zip vs)) ∧ vs.length = (T.fl x.c).length ∧ IsL K T F vs x.as)

/-- what is wanted of an outcome: ok says it of a value, the exceptions go to W -/
def PostX {α : Type} (K : PySem.W.Frag) (T : Ct) (W : WX) (B F : Hp) (σ : L2.St) (good : α → En → Prop) (r : Out α) : Prop := match r with
  | .ok a ρ => good a ρ
  | .ex x ρ => ∀ F' H' c dd, Gw B F F' → Wd K T B F' H' σ ρ → ExIs K T F' H' c dd x → W c dd σ H'
  | .er => False
/-- a value comes, of which R holds -/
def good {α β : Type} (K : PySem.W.Frag) (T : Ct) (B F : Hp) (σ : L2.St) (R : Hp → β → α → Prop) (Q : β → Hp → Prop) (a : α) (ρ : En) : Prop :=
  ∀ F' H' b, Gw B F F' → Wd K T B F' H' σ ρ → R F' b a → Q b H'
/-- a new list comes, nobody's -/
def goodN (K : PySem.W.Frag) (T : Ct) (B F : Hp) (σ : L2.St) (Q : VK) (ds : List D) (ρ : En) : Prop :=
  ∀ F' H' a vs, Gw B F F' → B a = none → F' a = none → Wd K T (upd B a (.lst vs)) F' H' σ ρ → IsL K T F' vs ds → Q (.ref a) H'
abbrev Post {α β : Type} (K : PySem.W.Frag) (T : Ct) (W : WX) (B F : Hp) (σ : L2.St) (R : Hp → β → α → Prop) (r : Out α) (Q : β → Hp → Prop) : Prop := PostX K T W B F σ (good K T B F σ R Q) r
abbrev PostN (K : PySem.W.Frag) (T : Ct) (W : WX) (B F : Hp) (σ : L2.St) (r : Out (List D)) (Q : VK) : Prop := PostX K T W B F σ (goodN K T B F σ Q) r
def RB : Hp → Bool → Bool → Prop := fun _ b c => b = c

section
variable {K : PySem.W.Frag} {T : Ct} {W : WX} {B B' F F' H H' : Hp} {σ : L2.St} {ρ : En} {α β γ : Type} {R : Hp → β → α → Prop} {Q : β → Hp → Prop}
theorem PostX.bind {r : Out α} {k : α → En → Out γ} {g : γ → En → Prop} (h : PostX K T W B F σ g (r.bind k)) : PostX K T W B F σ (fun a ρ => PostX K T W B F σ g (k a ρ)) r := by
  cases r <;> exact h
theorem PostX.imp {r : Out α} {g g' : α → En → Prop} (h : PostX K T W B F σ g r) (hi : ∀ a ρ, r = .ok a ρ → g a ρ → g' a ρ) : PostX K T W B F σ g' r := by
  cases r with
  | ok a ρ => exact hi a ρ rfl h
  | ex x ρ => exact h
  | er => exact h
theorem PostX.gw {r : Out α} {g g' : α → En → Prop} (h : PostX K T W B F σ g r) (w : Gw B F F') (hi : ∀ a ρ, g a ρ → g' a ρ) : PostX K T W B F' σ g' r := by
  cases r with
  | ok a ρ => exact hi a ρ h
  | ex x ρ => exact fun F2 H2 c dd w2 => h F2 H2 c dd (w.trans w2)
  | er => exact h
theorem good.gw {a : α} {ρ : En} (h : good K T B F σ R Q a ρ) (w : Gw B F F') : good K T B F' σ R Q a ρ := fun F2 H2 b w2 => h F2 H2 b (w.trans w2)
theorem goodN.gw {Q : VK} {ds : List D} {ρ : En} (h : goodN K T B F σ Q ds ρ) (w : Gw B F F') : goodN K T B F' σ Q ds ρ := fun F2 H2 a vs w2 => h F2 H2 a vs (w.trans w2)
theorem Post.gw {r : Out α} (h : Post K T W B F σ R r Q) (w : Gw B F F') : Post K T W B F' σ R r Q := PostX.gw h w fun _ _ h => h.gw w
theorem PostN.gw {Q : VK} {r : Out (List D)} (h : PostN K T W B F σ r Q) (w : Gw B F F') : PostN K T W B F' σ r Q := PostX.gw h w fun _ _ h => h.gw w
/-- the step: one part, then what follows of its value -/
theorem Post.step {δ : Type} {R' : Hp → δ → γ → Prop} {Q' : δ → Hp → Prop} {r : Out α} {k : α → En → Out γ} (h : Post K T W B F σ R' (r.bind k) Q')
    (hi : ∀ a ρ F' H' b, Gw B F F' → Wd K T B F' H' σ ρ → R F' b a → Post K T W B F' σ R' (k a ρ) Q' → Q b H') : Post K T W B F σ R r Q :=
  (PostX.bind h).imp fun a ρ _ h F' H' b w s i => hi a ρ F' H' b w s i (Post.gw h w)
theorem PostN.step {Q' : VK} {r : Out α} {k : α → En → Out (List D)} (h : PostN K T W B F σ (r.bind k) Q')
    (hi : ∀ a ρ F' H' b, Gw B F F' → Wd K T B F' H' σ ρ → R F' b a → PostN K T W B F' σ (k a ρ) Q' → Q b H') : Post K T W B F σ R r Q :=
  (PostX.bind h).imp fun a ρ _ h F' H' b w s i => hi a ρ F' H' b w s i (PostN.gw h w)
/-- a new object, nobody's -/
theorem Wd.fresh {a : Addr} {u : HO} (w : Wd K T B F H σ ρ) (h : H a = none) : Wd K T (upd B a u) F (upd H a u) σ ρ := by
  obtain ⟨φ, h1, h2, h3⟩ := w.o
  have g := same_upd (u := u) h
  refine ⟨same_upd2 w.b, w.f.trans g, w.l, φ, fun i o e => ?_, h2, fun i b m => ?_⟩
  · obtain ⟨v, e1, q⟩ := h1 i o e
    exact ⟨v, e1, q.mono (Same.refl F) fun _ _ _ hu => g _ _ hu⟩
  · obtain ⟨⟨o, e⟩, hf, hb⟩ := h3 i b m
    obtain ⟨v, _, q⟩ := h1 i o e
    obtain ⟨y, hy⟩ := q.there b m
    exact ⟨⟨o, e⟩, hf, by rw [upd_ne (ne_of_none hy h)]; exact hb⟩
/-- a new list is frozen -/
theorem Wd.ice {a : Addr} {u : HO} (hb : B a = none) (w : Wd K T (upd B a u) F H σ ρ) : Gw B F (upd F a u) ∧ Wd K T B (upd F a u) H σ ρ := by
  have sb : Same B (upd B a u) := same_upd hb
  have ha : H a = some u := w.b _ _ upd_same
  have g : Gw B F (upd F a u) := ⟨fun b o e => by
    by_cases z : b = a
    · subst z; rw [upd_same]; rw [w.f _ _ e] at ha; exact ha.symm
    · rw [upd_ne z]; exact e, fun b o e => by
    by_cases z : b = a
    · subst z; exact .inr hb
    · rw [upd_ne z] at e; exact .inl e⟩
  refine ⟨g, sb.trans w.b, fun b o e => ?_, w.l, ?_⟩
  · by_cases z : b = a
    · subst z; rw [upd_same] at e; cases e; exact ha
    · rw [upd_ne z] at e; exact w.f _ _ e
  · obtain ⟨φ, h1, h2, h3⟩ := w.o
    refine ⟨φ, fun i o e => ?_, h2, fun i b m => ?_⟩
    · obtain ⟨v, e1, q⟩ := h1 i o e
      exact ⟨v, e1, q.mono g.s fun _ _ _ h => h⟩
    · obtain ⟨e, hf, hb'⟩ := h3 i b m
      have z : b ≠ a := fun z => by subst z; rw [upd_same] at hb'; cases hb'
      exact ⟨e, by rw [upd_ne z]; exact hf, sb.free hb'⟩
/-- .. or given to a slot -/
theorem Wd.give {a : Addr} {vs : List V} {ds : List D} {i : Nat} (hb : B a = none) (hf : F a = none) (w : Wd K T (upd B a (.lst vs)) F H σ ρ) (l : IsL K T F vs ds) (hi : i < σ.length) :
    Wd K T B F H (σ.set i (some (.ref a))) (ρ.set i (some (.ol ds))) := by
  have ha : H a = some (.lst vs) := w.b _ _ upd_same
  obtain ⟨φ, h1, h2, h3⟩ := id w.o
  refine (w.less (same_upd hb)).put (.ol ha l) hi (fun b m => ?_) fun j b m _ o x fq e ex q mq => ?_
  · simp at m; subst m; exact ⟨hf, hb⟩
  · simp at m
    subst m
    obtain ⟨x', ex', q'⟩ := h1 j o e
    rw [ex] at ex'
    cases ex'
    have ef : fq = φ j := by
      cases q with
      | im _ => cases mq
      | ol h l => simp at mq; subst mq; exact (Own.fp_eq (.ol h l) q').symm
      | oi h n l => simp at mq; subst mq; exact (Own.fp_eq (.oi h n l) q').symm
    rw [ef] at mq
    have z := (h3 j b mq).2.2
    rw [upd_same] at z
    cases z
/-- a slot's list is frozen -/
theorem Wd.freeze {ds : List D} {i : Nat} (w : Wd K T B F H σ ρ) (e : ρ[i]? = some (some (.ol ds))) : ∃ v F', σ[i]? = some (some v) ∧ Gw B F F' ∧ Wd K T B F' H σ (ρ.set i (some (.im (.lst ds)))) ∧ Is K T F' v (.lst ds) := by
  obtain ⟨φ, h1, h2, h3⟩ := id w.o
  obtain ⟨v, ev, q⟩ := h1 i _ e
  obtain ⟨a, vs, rfl, ef, ha, l⟩ := q.olI
  have am : a ∈ φ i := by rw [ef]; simp
  obtain ⟨_, fa, ba⟩ := h3 i a am
  have g : Gw B F (upd F a (.lst vs)) := ⟨same_upd fa, fun b o e => by
    by_cases z : b = a
    · subst z; exact .inr ba
    · rw [upd_ne z] at e; exact .inl e⟩
  have il : Is K T (upd F a (.lst vs)) (.ref a) (.lst ds) := .lst (SqL.of upd_same) (l.mono g.s)
  have hi : i < ρ.length := (List.getElem?_eq_some_iff.mp e).1
  refine ⟨_, upd F a (.lst vs), ev, g, ⟨w.b, fun b o e => ?_, by simpa using w.l, fset φ i [], fun j o e => ?_, fun j k b => ?_, fun j b => ?_⟩, il⟩
  · by_cases z : b = a
    · subst z; rw [upd_same] at e; cases e; exact ha
    · rw [upd_ne z] at e; exact w.f _ _ e
  · by_cases z : j = i
    · subst z
      rw [List.getElem?_set_self hi] at e
      cases e
      exact ⟨_, ev, by rw [fset_same]; exact .im il⟩
    · rw [List.getElem?_set_ne (Ne.symm z)] at e
      obtain ⟨x, e1, q1⟩ := h1 j o e
      exact ⟨x, e1, by rw [fset_ne z]; exact q1.mono g.s fun _ _ _ h => h⟩
  · by_cases z : j = i
    · subst z; rw [fset_same]; intro m; cases m
    · rw [fset_ne z]
      by_cases y : k = i
      · subst y; rw [fset_same]; intro _ m; cases m
      · rw [fset_ne y]; exact h2 j k b
  · by_cases z : j = i
    · subst z; rw [fset_same]; intro m; cases m
    · rw [fset_ne z]
      intro m
      obtain ⟨⟨o, e⟩, hf, hb⟩ := h3 j b m
      have y : b ≠ a := fun y => by subst y; exact z (h2 j i b m am)
      exact ⟨⟨o, by rw [List.getElem?_set_ne (Ne.symm z)]; exact e⟩, by rw [upd_ne y]; exact hf, hb⟩
end

/-! ### the judgements -/
/-- e runs as f says -/
structure PF (X : Cx) (T : Ct) (W : WX) (e : Expr) (f : En → Out D) : Prop where
  ex : ∃ t, PE X e t ∧ ∀ (B F H : Hp) (σ : L2.St) (ρ : En) (Q : VK), Wd X.K T B F H σ ρ → Post X.K T W B F σ (Is X.K T) (f ρ) Q → t σ H Q
/-- a test -/
structure TF (X : Cx) (T : Ct) (W : WX) (e : Expr) (f : En → Out Bool) : Prop where
  ex : ∃ t, PT X e t ∧ ∀ (B F H : Hp) (σ : L2.St) (ρ : En) (Q : Bool → Hp → Prop), Wd X.K T B F H σ ρ → Post X.K T W B F σ RB (f ρ) Q → t σ H Q
/-- e makes a new list -/
structure PN (X : Cx) (T : Ct) (W : WX) (e : Expr) (f : En → Out (List D)) : Prop where
  ex : ∃ t, PE X e t ∧ ∀ (B F H : Hp) (σ : L2.St) (ρ : En) (Q : VK), Wd X.K T B F H σ ρ → PostN X.K T W B F σ (f ρ) Q → t σ H Q
/-- arguments, all frozen -/
structure AF (X : Cx) (T : Ct) (W : WX) (es : List Expr) (f : En → Out (List D)) : Prop where
  ex : ∃ t, PA X es t ∧ ∀ (B F H : Hp) (σ : L2.St) (ρ : En) (Q : List V → Hp → Prop), Wd X.K T B F H σ ρ → Post X.K T W B F σ (IsL X.K T) (f ρ) Q → t σ H Q

section
variable {X : Cx} {T : Ct} {W : WX} {e a b c : Expr} {es : List Expr} {f fa fb : En → Out D} {pos : Pos}

/-! ### names, constants -/
def cst (d : D) : En → Out D := fun ρ => .ok d ρ
theorem pf_int {i : Int} {j : Nat} : PF X T W (.Constant (.int i) j pos) (cst (.int i)) := ⟨_, pe_int, fun B F H σ ρ Q w h => h F H _ Gw.refl w (.int i)⟩
theorem pf_bl {i : Bool} {j : Nat} : PF X T W (.Constant (.bool i) j pos) (cst (.bl i)) := ⟨_, pe_bl, fun B F H σ ρ Q w h => h F H _ Gw.refl w (.bl i)⟩
theorem pf_str {i : Str} {j : Nat} : PF X T W (.Constant (.str i) j pos) (cst (.str i)) := ⟨_, pe_str, fun B F H σ ρ Q w h => h F H _ Gw.refl w (.str i)⟩
theorem pf_non {j : Nat} : PF X T W (.Constant .none j pos) (cst .non) := ⟨_, pe_non, fun B F H σ ρ Q w h => h F H _ Gw.refl w .non⟩
/-- a name read as a value: an owned list is frozen -/
def rd (i : Nat) : En → Out D := fun ρ => match ρ[i]? with
  | some (some (.im d)) => .ok d ρ
  | some (some (.ol ds)) => .ok (.lst ds) (ρ.set i (some (.im (.lst ds))))
  | _ => .er
theorem pf_v {i : Nat} (h : PE X e (tVar i)) : PF X T W e (rd i) := by
  refine ⟨_, h, fun B F H σ ρ Q w q => ?_⟩
  unfold rd at q
  split at q
  · rename_i d e
    obtain ⟨v, ev, iv⟩ := w.get e
    exact ⟨v, ev, q F H v Gw.refl w iv⟩
  · rename_i ds e
    obtain ⟨v, F', ev, g, w', iv⟩ := w.freeze e
    exact ⟨v, ev, q F' H v g w' iv⟩
  · exact q.elim
/-- a new list as a value -/
def fz (f : En → Out (List D)) : En → Out D := fun ρ => (f ρ).bind fun ds ρ => .ok (.lst ds) ρ
theorem pf_n {f : En → Out (List D)} (h : PN X T W e f) : PF X T W e (fz f) := by
  obtain ⟨t, ht, hp⟩ := h
  refine ⟨t, ht, fun B F H σ ρ Q w q => hp B F H σ ρ Q w ((PostX.bind q).imp fun ds ρ' _ q F' H' a vs g hb hf w' l => ?_)⟩
  obtain ⟨g2, w2⟩ := w'.ice hb
  exact q _ H' _ (g.trans g2) w2 (.lst (SqL.of upd_same) (l.mono g2.s))

/-! ### arguments -/
def aN : En → Out (List D) := fun ρ => .ok [] ρ
def aC (f : En → Out D) (g : En → Out (List D)) : En → Out (List D) := fun ρ => (f ρ).bind fun d ρ => (g ρ).bind fun ds ρ => .ok (d :: ds) ρ
theorem af_nil : AF X T W [] aN := ⟨_, pa_nil, fun B F H σ ρ Q w h => h F H [] Gw.refl w .nil⟩
theorem af_cons {g : En → Out (List D)} (h1 : PF X T W e f) (h2 : AF X T W es g) (hs : starEach (e :: es) X.env = (false, eval e X.env) :: starEach es X.env := by rfl) : AF X T W (e :: es) (aC f g) := by
  obtain ⟨t, ht, hp⟩ := h1
  obtain ⟨u, hu, hq⟩ := h2
  refine ⟨_, pa_cons ht hu hs, fun B F H σ ρ Q w q => hp B F H σ ρ _ w (Post.step q fun d ρ1 F1 H1 v g1 w1 i1 q1 => ?_)⟩
  refine hq B F1 H1 σ ρ1 _ w1 (Post.step q1 fun ds ρ2 F2 H2 vs g2 w2 l2 q2 => ?_)
  exact q2 F2 H2 (v :: vs) Gw.refl w2 (.cons (i1.mono g2.s) l2)

/-! ### two-place operations by values -/
/-- f on two values runs as m says -/
structure OF (X : Cx) (T : Ct) (W : WX) (f : Value → Value → Sem Value) (m : D → D → En → Out D) : Prop where
  ex : ∃ r : R2, OpR X f r ∧ ∀ (B F H : Hp) (σ : L2.St) (ρ : En) (Q : VK) v1 d1 v2 d2, Wd X.K T B F H σ ρ → Is X.K T F v1 d1 → Is X.K T F v2 d2 → Post X.K T W B F σ (Is X.K T) (m d1 d2 ρ) Q → r v1 v2 H Q
def op2 (m : D → D → En → Out D) (fa fb : En → Out D) : En → Out D := fun ρ => (fa ρ).bind fun x ρ => (fb ρ).bind fun y ρ => m x y ρ
theorem pf_op {op : Operator} {m : D → D → En → Out D} (o : OF X T W (binaryOp op) m) (ha : PF X T W a fa) (hb : PF X T W b fb) : PF X T W (.BinOp a op b pos) (op2 m fa fb) := by
  obtain ⟨r, hr, hm⟩ := o
  obtain ⟨t, ht, hp⟩ := ha
  obtain ⟨u, hu, hq⟩ := hb
  refine ⟨_, pe_op hr ht hu, fun B F H σ ρ Q w q => hp B F H σ ρ _ w (Post.step q fun x ρ1 F1 H1 v1 g1 w1 i1 q1 => ?_)⟩
  exact hq B F1 H1 σ ρ1 _ w1 (Post.step q1 fun y ρ2 F2 H2 v2 g2 w2 i2 q2 => hm B F2 H2 σ ρ2 Q v1 x v2 y w2 (i1.mono g2.s) i2 q2)
/-- a value, or no road -/
def opt (o : Option D) : En → Out D := fun ρ => match o with
  | some d => .ok d ρ
  | none => .er
theorem opt_post {o : Option D} {ρ : En} {B F : Hp} {σ : L2.St} {Q : VK} (h : Post X.K T W B F σ (Is X.K T) (opt o ρ) Q) : ∃ d, o = some d ∧ good X.K T B F σ (Is X.K T) Q d ρ := by
  cases o with
  | none => exact h.elim
  | some d => exact ⟨d, rfl, h⟩
/-- two ints -/
def ii (g : Int → Int → Option D) : D → D → Option D
  | .int i, .int j => g i j
  | _, _ => none
theorem Is.intI {K : PySem.W.Frag} {F : Hp} {v : V} {i : Int} (h : Is K T F v (.int i)) : v = .int i := by
  cases h with
  | int _ => rfl
theorem Is.blI {K : PySem.W.Frag} {F : Hp} {v : V} {i : Bool} (h : Is K T F v (.bl i)) : v = .bl i := by
  cases h with
  | bl _ => rfl
theorem Is.strI {K : PySem.W.Frag} {F : Hp} {v : V} {i : Str} (h : Is K T F v (.str i)) : v = .str i := by
  cases h with
  | str _ => rfl
theorem Is.nonI {K : PySem.W.Frag} {F : Hp} {v : V} (h : Is K T F v .non) : v = .non := by
  cases h with
  | non => rfl
theorem Is.lstI {K : PySem.W.Frag} {F : Hp} {v : V} {ds : List D} (h : Is K T F v (.lst ds)) : ∃ a vs, v = .ref a ∧ SqL K F a vs ∧ IsL K T F vs ds := by
  cases h with
  | lst h l => exact ⟨_, _, rfl, h, l⟩
theorem Is.tupI {K : PySem.W.Frag} {F : Hp} {v : V} {ds : List D} (h : Is K T F v (.tup ds)) : ∃ a vs, v = .ref a ∧ SqT K F a vs ∧ IsL K T F vs ds := by
  cases h with
  | tup h l => exact ⟨_, _, rfl, h, l⟩
theorem Is.insI {K : PySem.W.Frag} {F : Hp} {v : V} {c : Nat} {ds : List D} (h : Is K T F v (.ins c ds)) : ∃ a dx fs, v = .ref a ∧ F a = some (.ins (T.cl c) dx fs) ∧ fs.map (·.1) = T.fl c ∧ IsL K T F (fs.map (·.2)) ds := by
  cases h with
  | ins h n l => exact ⟨_, _, _, rfl, h, n, l⟩
theorem of_ii {f : Value → Value → Sem Value} {C : Int → Int → Prop} {g : Int → Int → V} {k : Int → Int → Option D} (h : OpR X f (rI C g)) (hk : ∀ i j d, k i j = some d → C i j ∧ ∀ F, Is X.K T F (g i j) d) : OF X T W f (fun x y => opt (ii k x y)) := by
  refine ⟨_, h, fun B F H σ ρ Q v1 d1 v2 d2 w i1 i2 q => ?_⟩
  obtain ⟨d, e, gd⟩ := opt_post q
  unfold ii at e
  split at e
  · rename_i i j
    obtain ⟨hc, hd⟩ := hk i j d e
    exact ⟨i, j, i1.intI, i2.intI, hc, gd F H _ Gw.refl w (hd F)⟩
  · cases e
theorem of_ii0 {f : Value → Value → Sem Value} {g : Int → Int → V} {k : Int → Int → D} (h : OpR X f (rI0 g)) (hk : ∀ i j F, Is X.K T F (g i j) (k i j)) : OF X T W f (fun x y => opt (ii (fun i j => some (k i j)) x y)) := by
  refine ⟨_, h, fun B F H σ ρ Q v1 d1 v2 d2 w i1 i2 q => ?_⟩
  obtain ⟨d, e, q⟩ := opt_post q
  unfold ii at e
  split at e
  · rename_i i j
    cases e
    exact ⟨i, j, i1.intI, i2.intI, q F H _ Gw.refl w (hk i j F)⟩
  · cases e
/-- small enough for a product -/
def mulOk (i j : Int) : Bool := decide (i.natAbs.log2 + j.natAbs.log2 < 100000000)
def divOk (j : Int) : Bool := decide (j ≠ 0) && decide (j.natAbs.log2 < 9000)
abbrev iAdd : D → D → En → Out D := fun x y => opt (ii (fun i j => some (.int (i + j))) x y)
abbrev iSub : D → D → En → Out D := fun x y => opt (ii (fun i j => some (.int (i - j))) x y)
abbrev iMul : D → D → En → Out D := fun x y => opt (ii (fun i j => if mulOk i j then some (.int (i * j)) else none) x y)
abbrev iDiv : D → D → En → Out D := fun x y => opt (ii (fun i j => if divOk j then some (.int (i.fdiv j)) else none) x y)
abbrev iMod : D → D → En → Out D := fun x y => opt (ii (fun i j => if decide (j ≠ 0) then some (.int (i.fmod j)) else none) x y)
theorem of_add : OF X T W (binaryOp .Add) iAdd := of_ii0 op_add fun _ _ _ => .int _
theorem of_sub : OF X T W (binaryOp .Sub) iSub := of_ii0 op_sub fun _ _ _ => .int _
theorem mulOk_fits {i j : Int} (h : mulOk i j = true) : IntMulOk i j := by
  have h := of_decide_eq_true h
  have bits : ∀ x : Int, Builtin.Int.intBits x ≤ x.natAbs.log2 + 1 := fun x => by
    unfold Builtin.Int.intBits
    split <;> omega
  have h1 := bits i
  have h2 := bits j
  have line : bitsLine = 134217728 := by decide
  intro z
  rw [Bool.and_eq_true] at z
  have z2 := z.2
  unfold Builtin.Int.intTooBig at z2
  have z3 := of_decide_eq_true z2
  rw [line] at z3
  omega
theorem op_mulX : OpR X (binaryOp .Mult) (rI (fun i j => mulOk i j = true) fun i j => .int (i * j)) := opI fun _ _ _ _ _ _ _ hc q => mul_int q (mulOk_fits hc)
theorem of_mul : OF X T W (binaryOp .Mult) iMul := of_ii op_mulX fun i j d e => by
  split at e
  · rename_i h
    cases e
    exact ⟨h, fun _ => .int _⟩
  · cases e
theorem op_fdivA : OpR X (binaryOp .FloorDiv) (rI (fun _ j => j ≠ 0 ∧ j.natAbs.log2 < 9000) fun i j => .int (i.fdiv j)) :=
  opI fun i j t u s Q E hc q => floordiv_int hc.1 q (.inl (PyProof.noPylong_of_log2 hc.2))
theorem of_div : OF X T W (binaryOp .FloorDiv) iDiv := of_ii op_fdivA fun i j d e => by
  split at e
  · rename_i h
    cases e
    obtain ⟨h1, h2⟩ := Bool.and_eq_true_iff.mp h
    exact ⟨⟨of_decide_eq_true h1, of_decide_eq_true h2⟩, fun _ => .int _⟩
  · cases e
theorem of_mod : OF X T W (binaryOp .Mod) iMod := of_ii op_modN fun i j d e => by
  split at e
  · rename_i h
    cases e
    exact ⟨of_decide_eq_true h, fun _ => .int _⟩
  · cases e
end
end Ce
namespace Ce
open PySem PySem.Spec PyProof.Rows L2 Ce

section
variable {X : Cx} {T : Ct} {W : WX} {e a b c : Expr} {es : List Expr} {f fa fb fc : En → Out D} {pos p p2 : Pos}

/-! ### comparisons by values -/
abbrev iLt : D → D → En → Out D := fun x y => opt (ii (fun i j => some (.bl (decide (i < j)))) x y)
abbrev iLe : D → D → En → Out D := fun x y => opt (ii (fun i j => some (.bl (decide (i ≤ j)))) x y)
abbrev iGt : D → D → En → Out D := fun x y => opt (ii (fun i j => some (.bl (decide (j < i)))) x y)
abbrev iGe : D → D → En → Out D := fun x y => opt (ii (fun i j => some (.bl (decide (j ≤ i)))) x y)
theorem of_lt : OF X T W (compareOp .Lt) iLt := of_ii0 op_lt fun _ _ _ => .bl _
theorem of_le : OF X T W (compareOp .LtE) iLe := of_ii0 op_le fun _ _ _ => .bl _
theorem of_gt : OF X T W (compareOp .Gt) iGt := of_ii0 op_gt fun _ _ _ => .bl _
theorem of_ge : OF X T W (compareOp .GtE) iGe := of_ii0 op_ge fun _ _ _ => .bl _
/-- == of scalars -/
def seq : D → D → Option Bool
  | .int i, .int j => some (decide (i = j))
  | .str i, .str j => some (decide (i = j))
  | .bl i, .bl j => some (decide (i = j))
  | .non, .non => some true
  | .int _, .str _ => some false
  | .str _, .int _ => some false
  | .non, .int _ => some false
  | .int _, .non => some false
  | .non, .str _ => some false
  | .str _, .non => some false
  | _, _ => none
theorem seq_ok {K : PySem.W.Frag} {F : Hp} {v1 v2 : V} {d1 d2 : D} {r : Bool} (h : seq d1 d2 = some r) (i1 : Is K T F v1 d1) (i2 : Is K T F v2 d2) : scal v1 v2 = true ∧ decide (v1 = v2) = r := by
  unfold seq at h
  split at h <;> (try cases h)
  · rw [i1.intI, i2.intI]; exact ⟨rfl, by simp⟩
  · rw [i1.strI, i2.strI]; exact ⟨rfl, by simp⟩
  · rw [i1.blI, i2.blI]; exact ⟨rfl, by simp⟩
  · rw [i1.nonI, i2.nonI]; exact ⟨rfl, by simp⟩
  · rw [i1.intI, i2.strI]; exact ⟨rfl, by simp⟩
  · rw [i1.strI, i2.intI]; exact ⟨rfl, by simp⟩
  · rw [i1.nonI, i2.intI]; exact ⟨rfl, by simp⟩
  · rw [i1.intI, i2.nonI]; exact ⟨rfl, by simp⟩
  · rw [i1.nonI, i2.strI]; exact ⟨rfl, by simp⟩
  · rw [i1.strI, i2.nonI]; exact ⟨rfl, by simp⟩
abbrev sEq : D → D → En → Out D := fun x y => opt ((seq x y).map D.bl)
abbrev sNe : D → D → En → Out D := fun x y => opt ((seq x y).map fun k => D.bl (!k))
theorem of_eq : OF X T W (compareOp .Eq) sEq := by
  refine ⟨_, op_eq, fun B F H σ ρ Q v1 d1 v2 d2 w i1 i2 q => ?_⟩
  obtain ⟨d, e, gd⟩ := opt_post q
  obtain ⟨k, ek, rfl⟩ := Option.map_eq_some_iff.mp e
  obtain ⟨h1, h2⟩ := seq_ok ek i1 i2
  exact ⟨h1, by rw [h2]; exact gd F H _ Gw.refl w (.bl _)⟩
theorem of_ne : OF X T W (compareOp .NotEq) sNe := by
  refine ⟨_, op_ne, fun B F H σ ρ Q v1 d1 v2 d2 w i1 i2 q => ?_⟩
  obtain ⟨d, e, gd⟩ := opt_post q
  obtain ⟨k, ek, rfl⟩ := Option.map_eq_some_iff.mp e
  obtain ⟨h1, h2⟩ := seq_ok ek i1 i2
  exact ⟨h1, by rw [h2]; exact gd F H _ Gw.refl w (.bl _)⟩
/-- is None -/
def isN : D → Option Bool
  | .non => some true
  | .raw _ => none
  | _ => some false
theorem isN_ok {K : PySem.W.Frag} {F : Hp} {v : V} {d : D} {r : Bool} (h : isN d = some r) (i : Is K T F v d) : decide (v = .non) = r := by
  cases i <;> cases h <;> simp
abbrev oIs : D → D → En → Out D := fun x y => opt (match y with | .non => (isN x).map D.bl | _ => none)
abbrev oIsN : D → D → En → Out D := fun x y => opt (match y with | .non => (isN x).map (fun k => D.bl (!k)) | _ => none)
theorem of_is : OF X T W (compareOp .Is) oIs := by
  refine ⟨_, op_isN, fun B F H σ ρ Q v1 d1 v2 d2 w i1 i2 q => ?_⟩
  obtain ⟨d, e, gd⟩ := opt_post q
  split at e
  · obtain ⟨k, ek, rfl⟩ := Option.map_eq_some_iff.mp e
    exact ⟨i2.nonI, by rw [isN_ok ek i1]; exact gd F H _ Gw.refl w (.bl _)⟩
  · cases e
theorem of_isnot : OF X T W (compareOp .IsNot) oIsN := by
  refine ⟨_, op_notN, fun B F H σ ρ Q v1 d1 v2 d2 w i1 i2 q => ?_⟩
  obtain ⟨d, e, gd⟩ := opt_post q
  split at e
  · obtain ⟨k, ek, rfl⟩ := Option.map_eq_some_iff.mp e
    exact ⟨i2.nonI, by rw [isN_ok ek i1]; exact gd F H _ Gw.refl w (.bl _)⟩
  · cases e
/-- is of two truth values -/
def bb (g : Bool → Bool → D) : D → D → Option D
  | .bl i, .bl j => some (g i j)
  | _, _ => none
abbrev bIs : D → D → En → Out D := fun x y => opt (bb (fun i j => .bl (decide (i = j))) x y)
abbrev bIsN : D → D → En → Out D := fun x y => opt (bb (fun i j => .bl (!decide (i = j))) x y)
theorem of_isB : OF X T W (compareOp .Is) bIs := by
  refine ⟨_, op_is_bl, fun B F H σ ρ Q v1 d1 v2 d2 w i1 i2 q => ?_⟩
  obtain ⟨d, e, gd⟩ := opt_post q
  unfold bb at e
  split at e
  · cases e
    exact ⟨_, _, i1.blI, i2.blI, gd F H _ Gw.refl w (.bl _)⟩
  · cases e
theorem of_isnotB : OF X T W (compareOp .IsNot) bIsN := by
  refine ⟨_, op_isnot_bl, fun B F H σ ρ Q v1 d1 v2 d2 w i1 i2 q => ?_⟩
  obtain ⟨d, e, gd⟩ := opt_post q
  unfold bb at e
  split at e
  · cases e
    exact ⟨_, _, i1.blI, i2.blI, gd F H _ Gw.refl w (.bl _)⟩
  · cases e
/-- two texts -/
def ss (g : Str → Str → Option D) : D → D → Option D
  | .str i, .str j => g i j
  | _, _ => none
abbrev tAddS : D → D → En → Out D := fun x y => opt (ss (fun i j => if decide (i.length + j.length ≤ sizeLine) then some (.str (i ++ j)) else none) x y)
theorem of_addS : OF X T W (binaryOp .Add) tAddS := by
  refine ⟨_, op_add_str, fun B F H σ ρ Q v1 d1 v2 d2 w i1 i2 q => ?_⟩
  obtain ⟨d, e, gd⟩ := opt_post q
  unfold ss at e
  split at e
  · dsimp only at e
    split at e
    · rename_i h
      cases e
      exact ⟨_, _, i1.strI, i2.strI, of_decide_eq_true h, gd F H _ Gw.refl w (.str _)⟩
    · cases e
  · cases e
abbrev tInS : D → D → En → Out D := fun x y => opt (ss (fun i j => some (.bl (!(Builtin.Str.occurrences j i 0 j.length 1).isEmpty))) x y)
abbrev tNotInS : D → D → En → Out D := fun x y => opt (ss (fun i j => some (.bl (!(!(Builtin.Str.occurrences j i 0 j.length 1).isEmpty)))) x y)
theorem of_inS : OF X T W (compareOp .In) tInS := by
  refine ⟨_, op_in_str, fun B F H σ ρ Q v1 d1 v2 d2 w i1 i2 q => ?_⟩
  obtain ⟨d, e, gd⟩ := opt_post q
  unfold ss at e
  split at e
  · cases e
    exact ⟨_, _, i1.strI, i2.strI, gd F H _ Gw.refl w (.bl _)⟩
  · cases e
theorem of_notInS : OF X T W (compareOp .NotIn) tNotInS := by
  refine ⟨_, op_notIn_str, fun B F H σ ρ Q v1 d1 v2 d2 w i1 i2 q => ?_⟩
  obtain ⟨d, e, gd⟩ := opt_post q
  unfold ss at e
  split at e
  · cases e
    exact ⟨_, _, i1.strI, i2.strI, gd F H _ Gw.refl w (.bl _)⟩
  · cases e

/-! ### comparisons as expressions and tests -/
theorem pf_cmp {op : CmpOp} {m : D → D → En → Out D} (o : OF X T W (compareOp op) m) (ha : PF X T W a fa) (hb : PF X T W b fb) (hm : behindInMarks op b = false) : PF X T W (.Compare a [op] [b] pos) (op2 m fa fb) := by
  obtain ⟨r, hr, hm'⟩ := o
  obtain ⟨t, ht, hp⟩ := ha
  obtain ⟨u, hu, hq⟩ := hb
  refine ⟨_, pe_cmpR hr ht hu hm, fun B F H σ ρ Q w q => hp B F H σ ρ _ w (Post.step q fun x ρ1 F1 H1 v1 g1 w1 i1 q1 => ?_)⟩
  exact hq B F1 H1 σ ρ1 _ w1 (Post.step q1 fun y ρ2 F2 H2 v2 g2 w2 i2 q2 => hm' B F2 H2 σ ρ2 Q v1 x v2 y w2 (i1.mono g2.s) i2 q2)
/-- a truth value as a test -/
def tst (f : En → Out D) : En → Out Bool := fun ρ => (f ρ).bind fun d ρ => match d with
  | .bl k => .ok k ρ
  | _ => .er
theorem tst_step {K : PySem.W.Frag} {B F : Hp} {σ : L2.St} {ρ : En} {Q : Bool → Hp → Prop} (q : Post K T W B F σ RB (tst f ρ) Q) : Post K T W B F σ (Is K T) (f ρ) (fun x H => ∃ k, x = .bl k ∧ Q k H) := by
  refine Post.step q fun d ρ1 F1 H1 v g w i q1 => ?_
  cases d with
  | bl k => exact ⟨k, i.blI, q1 F1 H1 k Gw.refl w rfl⟩
  | _ => exact q1.elim
theorem tf_val (h : PF X T W e f) (he : ∀ whole, isTrue e X.env whole = (do let v ← whole; standAt e.pos; holding [v] (truthy v)) := by intro _; rfl) : TF X T W e (tst f) := by
  obtain ⟨t, ht, hp⟩ := h
  exact ⟨_, pt_val ht he, fun B F H σ ρ Q w q => hp B F H σ ρ _ w (tst_step q)⟩
theorem tf_cmp {op : CmpOp} {m : D → D → En → Out D} (o : OF X T W (compareOp op) m) (ha : PF X T W a fa) (hb : PF X T W b fb) (hm : behindInMarks op b = false) : TF X T W (.Compare a [op] [b] pos) (tst (op2 m fa fb)) := by
  obtain ⟨r, hr, hm'⟩ := o
  obtain ⟨t, ht, hp⟩ := ha
  obtain ⟨u, hu, hq⟩ := hb
  refine ⟨_, pt_cmpR hr ht hu hm, fun B F H σ ρ Q w q => ?_⟩
  have q0 := tst_step q
  refine hp B F H σ ρ _ w (Post.step q0 fun x ρ1 F1 H1 v1 g1 w1 i1 q1 => ?_)
  exact hq B F1 H1 σ ρ1 _ w1 (Post.step q1 fun y ρ2 F2 H2 v2 g2 w2 i2 q2 => hm' B F2 H2 σ ρ2 _ v1 x v2 y w2 (i1.mono g2.s) i2 q2)
/-- a op b op' c -/
def chn (m m' : D → D → En → Out D) (fa fb fc : En → Out D) : En → Out D := fun ρ => (fa ρ).bind fun x ρ => (fb ρ).bind fun y ρ => (m x y ρ).bind fun z ρ => match z with
  | .bl true => (fc ρ).bind fun w ρ => m' y w ρ
  | .bl false => .ok (.bl false) ρ
  | _ => .er
theorem chn_ok {op op' : CmpOp} {m m' : D → D → En → Out D} (o : OF X T W (compareOp op) m) (o' : OF X T W (compareOp op') m') (ha : PF X T W a fa) (hb : PF X T W b fb) (hc : PF X T W c fc) :
    ∃ r r' ta tb tc, OpR X (compareOp op) r ∧ OpR X (compareOp op') r' ∧ PE X a ta ∧ PE X b tb ∧ PE X c tc ∧
      ∀ (B F H : Hp) (σ : L2.St) (ρ : En) (Q : VK), Wd X.K T B F H σ ρ → Post X.K T W B F σ (Is X.K T) (chn m m' fa fb fc ρ) Q → tChain r r' ta tb tc σ H Q := by
  obtain ⟨r, hr, hm⟩ := o
  obtain ⟨r', hr', hm'⟩ := o'
  obtain ⟨t, ht, hp⟩ := ha
  obtain ⟨u, hu, hq⟩ := hb
  obtain ⟨z, hz, hs⟩ := hc
  refine ⟨r, r', t, u, z, hr, hr', ht, hu, hz, fun B F H σ ρ Q w q => ?_⟩
  refine hp B F H σ ρ _ w (Post.step q fun x ρ1 F1 H1 v1 g1 w1 i1 q1 => ?_)
  refine hq B F1 H1 σ ρ1 _ w1 (Post.step q1 fun y ρ2 F2 H2 v2 g2 w2 i2 q2 => ?_)
  refine hm B F2 H2 σ ρ2 _ v1 x v2 y w2 (i1.mono g2.s) i2 (Post.step q2 fun k ρ3 F3 H3 v3 g3 w3 i3 q3 => ?_)
  cases k with
  | bl k =>
    refine ⟨k, i3.blI, ?_⟩
    cases k with
    | true =>
      rw [if_pos rfl]
      exact hs B F3 H3 σ ρ3 _ w3 (Post.step q3 fun d ρ4 F4 H4 v4 g4 w4 i4 q4 => hm' B F4 H4 σ ρ4 Q v2 y v4 d w4 ((i2.mono g3.s).mono g4.s) i4 q4)
    | false =>
      rw [if_neg Bool.false_ne_true]
      exact q3 F3 H3 _ Gw.refl w3 (.bl false)
  | _ => exact q3.elim
theorem pf_chn {op op' : CmpOp} {m m' : D → D → En → Out D} (o : OF X T W (compareOp op) m) (o' : OF X T W (compareOp op') m') (ha : PF X T W a fa) (hb : PF X T W b fb) (hc : PF X T W c fc) (hm : lastMarks [op, op'] [b, c] = false := by with_unfolding_all rfl) :
    PF X T W (.Compare a [op, op'] [b, c] pos) (chn m m' fa fb fc) := by
  obtain ⟨r, r', t, u, z, hr, hr', ht, hu, hz, h⟩ := chn_ok o o' ha hb hc
  exact ⟨_, pe_chain hr hr' ht hu hz hm, h⟩
theorem tf_chn {op op' : CmpOp} {m m' : D → D → En → Out D} (o : OF X T W (compareOp op) m) (o' : OF X T W (compareOp op') m') (ha : PF X T W a fa) (hb : PF X T W b fb) (hc : PF X T W c fc) (hm : lastMarks [op, op'] [b, c] = false := by with_unfolding_all rfl) :
    TF X T W (.Compare a [op, op'] [b, c] pos) (tst (chn m m' fa fb fc)) := by
  obtain ⟨r, r', t, u, z, hr, hr', ht, hu, hz, h⟩ := chn_ok o o' ha hb hc
  exact ⟨_, pt_chain hr hr' ht hu hz hm, fun B F H σ ρ Q w q => h B F H σ ρ _ w (tst_step q)⟩

/-! ### and, or, not, if -/
/-- a test whatever its whole is -/
structure WF (X : Cx) (T : Ct) (W : WX) (e : Expr) (f : En → Out Bool) : Prop where
  ex : ∃ t, PW X e t ∧ ∀ (B F H : Hp) (σ : L2.St) (ρ : En) (Q : Bool → Hp → Prop), Wd X.K T B F H σ ρ → Post X.K T W B F σ RB (f ρ) Q → t σ H Q
variable {ga gb : En → Out Bool} {rest : List Expr}
theorem tf_w (h : WF X T W e ga) : TF X T W e ga := by
  obtain ⟨t, ht, hp⟩ := h
  exact ⟨t, ht.pt, hp⟩
def tAnd2 (f g : En → Out Bool) : En → Out Bool := fun ρ => (f ρ).bind fun k ρ => match k with
  | true => g ρ
  | false => .ok false ρ
def tOr2 (f g : En → Out Bool) : En → Out Bool := fun ρ => (f ρ).bind fun k ρ => match k with
  | true => .ok true ρ
  | false => g ρ
def tNot1 (f : En → Out Bool) : En → Out Bool := fun ρ => (f ρ).bind fun k ρ => .ok (!k) ρ
theorem wf_and1 (ha : TF X T W a ga) : WF X T W (.BoolOp .And [a] pos) ga := by
  obtain ⟨t, ht, hp⟩ := ha
  exact ⟨t, pw_and1 ht, hp⟩
theorem wf_or1 (ha : TF X T W a ga) : WF X T W (.BoolOp .Or [a] pos) ga := by
  obtain ⟨t, ht, hp⟩ := ha
  exact ⟨t, pw_or1 ht, hp⟩
theorem wf_and (ha : TF X T W a ga) (hb : WF X T W (.BoolOp .And (b :: rest) pos) gb) : WF X T W (.BoolOp .And (a :: b :: rest) pos) (tAnd2 ga gb) := by
  obtain ⟨t, ht, hp⟩ := ha
  obtain ⟨u, hu, hq⟩ := hb
  refine ⟨_, pw_and ht hu, fun B F H σ ρ Q w q => hp B F H σ ρ _ w (Post.step q fun k ρ1 F1 H1 k' g1 w1 i1 q1 => ?_)⟩
  cases (show k' = k from i1)
  cases k with
  | true => rw [if_pos rfl]; exact hq B F1 H1 σ ρ1 Q w1 q1
  | false => rw [if_neg Bool.false_ne_true]; exact q1 F1 H1 false Gw.refl w1 rfl
theorem wf_or (ha : TF X T W a ga) (hb : WF X T W (.BoolOp .Or (b :: rest) pos) gb) : WF X T W (.BoolOp .Or (a :: b :: rest) pos) (tOr2 ga gb) := by
  obtain ⟨t, ht, hp⟩ := ha
  obtain ⟨u, hu, hq⟩ := hb
  refine ⟨_, pw_or ht hu, fun B F H σ ρ Q w q => hp B F H σ ρ _ w (Post.step q fun k ρ1 F1 H1 k' g1 w1 i1 q1 => ?_)⟩
  cases (show k' = k from i1)
  cases k with
  | true => rw [if_pos rfl]; exact q1 F1 H1 true Gw.refl w1 rfl
  | false => rw [if_neg Bool.false_ne_true]; exact hq B F1 H1 σ ρ1 Q w1 q1
theorem tf_not (ha : TF X T W a ga) : TF X T W (.UnaryOp .Not a pos) (tNot1 ga) := by
  obtain ⟨t, ht, hp⟩ := ha
  refine ⟨_, pt_not ht, fun B F H σ ρ Q w q => hp B F H σ ρ _ w (Post.step q fun k ρ1 F1 H1 k' g1 w1 i1 q1 => ?_)⟩
  cases (show k' = k from i1)
  exact q1 F1 H1 _ Gw.refl w1 rfl
def vAnd2 (f g : En → Out D) : En → Out D := fun ρ => (f ρ).bind fun d ρ => match d with
  | .bl true => g ρ
  | .bl false => .ok (.bl false) ρ
  | _ => .er
def vOr2 (f g : En → Out D) : En → Out D := fun ρ => (f ρ).bind fun d ρ => match d with
  | .bl true => .ok (.bl true) ρ
  | .bl false => g ρ
  | _ => .er
def vNot1 (f : En → Out D) : En → Out D := fun ρ => (f ρ).bind fun d ρ => match d with
  | .bl k => .ok (.bl (!k)) ρ
  | _ => .er
theorem pf_one {op : BoolOp} (h : PF X T W a fa) : PF X T W (.BoolOp op [a] pos) fa := by
  obtain ⟨t, ht, hp⟩ := h
  exact ⟨t, pe_one ht, hp⟩
theorem pf_and (ha : PF X T W a fa) (hb : PF X T W (.BoolOp .And (b :: rest) pos) fb) : PF X T W (.BoolOp .And (a :: b :: rest) pos) (vAnd2 fa fb) := by
  obtain ⟨t, ht, hp⟩ := ha
  obtain ⟨u, hu, hq⟩ := hb
  refine ⟨_, pe_and ht hu, fun B F H σ ρ Q w q => hp B F H σ ρ _ w (Post.step q fun d ρ1 F1 H1 v g1 w1 i1 q1 => ?_)⟩
  cases d with
  | bl k =>
    refine ⟨k, i1.blI, ?_⟩
    cases k with
    | true => rw [if_pos rfl]; exact hq B F1 H1 σ ρ1 Q w1 q1
    | false => rw [if_neg Bool.false_ne_true]; exact q1 F1 H1 _ Gw.refl w1 (.bl false)
  | _ => exact q1.elim
theorem pf_or (ha : PF X T W a fa) (hb : PF X T W (.BoolOp .Or (b :: rest) pos) fb) : PF X T W (.BoolOp .Or (a :: b :: rest) pos) (vOr2 fa fb) := by
  obtain ⟨t, ht, hp⟩ := ha
  obtain ⟨u, hu, hq⟩ := hb
  refine ⟨_, pe_or ht hu, fun B F H σ ρ Q w q => hp B F H σ ρ _ w (Post.step q fun d ρ1 F1 H1 v g1 w1 i1 q1 => ?_)⟩
  cases d with
  | bl k =>
    refine ⟨k, i1.blI, ?_⟩
    cases k with
    | true => rw [if_pos rfl]; exact q1 F1 H1 _ Gw.refl w1 (.bl true)
    | false => rw [if_neg Bool.false_ne_true]; exact hq B F1 H1 σ ρ1 Q w1 q1
  | _ => exact q1.elim
theorem pf_not (ha : PF X T W a fa) : PF X T W (.UnaryOp .Not a pos) (vNot1 fa) := by
  obtain ⟨t, ht, hp⟩ := ha
  refine ⟨_, pe_not ht, fun B F H σ ρ Q w q => hp B F H σ ρ _ w (Post.step q fun d ρ1 F1 H1 v g1 w1 i1 q1 => ?_)⟩
  cases d with
  | bl k => exact ⟨k, i1.blI, q1 F1 H1 _ Gw.refl w1 (.bl _)⟩
  | _ => exact q1.elim
/-- -a of an int -/
def iNeg (f : En → Out D) : En → Out D := fun ρ => (f ρ).bind fun d ρ => match d with
  | .int i => .ok (.int (-i)) ρ
  | _ => .er
theorem pf_neg (ha : PF X T W a fa) : PF X T W (.UnaryOp .USub a pos) (iNeg fa) := by
  obtain ⟨t, ht, hp⟩ := ha
  refine ⟨_, pe_un un_neg ht, fun B F H σ ρ Q w q => hp B F H σ ρ _ w (Post.step q fun d ρ1 F1 H1 v g1 w1 i1 q1 => ?_)⟩
  cases d with
  | int k => exact ⟨k, i1.intI, q1 F1 H1 _ Gw.refl w1 (.int _)⟩
  | _ => exact q1.elim

/-! ### tuples, lists written out -/
def vTup (g : En → Out (List D)) : En → Out D := fun ρ => (g ρ).bind fun ds ρ => if decide (ds.length ≤ sizeLine) then .ok (.tup ds) ρ else .er
theorem pf_tup {g : En → Out (List D)} {k : Nat} (h : AF X T W es g) : PF X T W (.Tuple es k pos) (vTup g) := by
  obtain ⟨t, ht, hp⟩ := h
  refine ⟨_, pe_tup ht, fun B F H σ ρ Q w q => hp B F H σ ρ _ w (Post.step q fun ds ρ1 F1 H1 vs g1 w1 l q1 => ?_)⟩
  split at q1
  · rename_i hz
    refine ⟨by rw [l.length]; exact of_decide_eq_true hz, fun p hp => ?_⟩
    obtain ⟨g2, w2⟩ := w1.new (u := .tup vs) hp
    exact q1 _ _ _ g2 w2 (.tup (SqT.of upd_same) (l.mono g2.s))
  · exact q1.elim
def nLst (g : En → Out (List D)) : En → Out (List D) := fun ρ => (g ρ).bind fun ds ρ => if decide (ds.length ≤ sizeLine) then .ok ds ρ else .er
theorem pn_lst {g : En → Out (List D)} (h : AF X T W es g) : PN X T W (.List es pos) (nLst g) := by
  obtain ⟨t, ht, hp⟩ := h
  refine ⟨_, pe_lst ht, fun B F H σ ρ Q w q => hp B F H σ ρ _ w (PostN.step q fun ds ρ1 F1 H1 vs g1 w1 l q1 => ?_)⟩
  split at q1
  · rename_i hz
    refine ⟨by rw [l.length]; exact of_decide_eq_true hz, fun p hp => ?_⟩
    exact q1 F1 _ p vs Gw.refl (w1.nofree hp).2 (w1.nofree hp).1 (Wd.fresh w1 hp) l
  · exact q1.elim
end
end Ce
namespace Ce
open PySem PySem.Spec PyProof.Rows L2 Ce

/-- what a view of a list shows -/
def goodV (K : PySem.W.Frag) (T : Ct) (B F : Hp) (σ : L2.St) (Q : VK) (ds : List D) (ρ : En) : Prop :=
  ∀ F' H' a vs, Gw B F F' → Wd K T B F' H' σ ρ → SqL K H' a vs → IsL K T F' vs ds → Q (.ref a) H'
/-- e evaluates to a list that is read only -/
structure VF (X : Cx) (T : Ct) (W : WX) (e : Expr) (f : En → Out (List D)) : Prop where
  ex : ∃ t, PE X e t ∧ ∀ (B F H : Hp) (σ : L2.St) (ρ : En) (Q : VK), Wd X.K T B F H σ ρ → PostX X.K T W B F σ (goodV X.K T B F σ Q) (f ρ) → t σ H Q

section
variable {X : Cx} {T : Ct} {W : WX} {e a b c : Expr} {es : List Expr} {f fa fb fc : En → Out D} {pos p p2 : Pos}

/-! ### fields -/
/-- e.f of instances: tbl tells, by the class, the field's place -/
structure FldOk (K : PySem.W.Frag) (T : Ct) (f : Str) (tbl : Nat → Option Nat) : Prop where
  ok : ∀ c j, tbl c = some j → Cls K (T.cl c) ∧ NoAttr K (T.cl c) f ∧ (T.fl c)[j]? = some f ∧ (T.fl c).Nodup
theorem lookup_at {f : Str} : ∀ {fs : List (Str × V)} {j : Nat} {v : V}, (fs.map (·.1)).Nodup → (fs.map (·.1))[j]? = some f → (fs.map (·.2))[j]? = some v → fs.lookup f = some v
  | [], _, _, _, h, _ => by simp at h
  | (g, u) :: r, 0, v, _, h1, h2 => by
    simp at h1 h2
    subst h1 h2
    simp [List.lookup]
  | (g, u) :: r, j + 1, v, nd, h1, h2 => by
    simp only [List.map_cons, List.nodup_cons] at nd
    simp only [List.map_cons, List.getElem?_cons_succ] at h1 h2
    have ne : f ≠ g := fun z => nd.1 (z ▸ List.mem_of_getElem? h1)
    have q := lookup_at (fs := r) nd.2 h1 h2
    show (match f == g with | true => some u | false => r.lookup f) = some v
    rw [beq_eq_false_iff_ne.mpr ne]
    exact q
def fld (tbl : Nat → Option Nat) (fe : En → Out D) : En → Out D := fun ρ => (fe ρ).bind fun d ρ => match d with
  | .ins c ds => (match tbl c with
    | some j => opt ds[j]? ρ
    | none => .er)
  | _ => .er
theorem pf_fld {f : Str} {tbl : Nat → Option Nat} {fe : En → Out D} (k : FldOk X.K T f tbl) (he : PF X T W e fe) (hb : attributeBase e f X.env (eval e X.env) = eval e X.env := by rfl) : PF X T W (.Attribute e f pos) (fld tbl fe) := by
  obtain ⟨t, ht, hp⟩ := he
  refine ⟨_, pe_fld ht hb, fun B F H σ ρ Q w q => hp B F H σ ρ _ w (Post.step q fun d ρ1 F1 H1 v g1 w1 i1 q1 => ?_)⟩
  cases d with
  | ins c ds =>
    dsimp only at q1
    split at q1
    · rename_i j ej
      obtain ⟨d, ed, gd⟩ := opt_post q1
      obtain ⟨a, dx, fs, rfl, ha, hn, l⟩ := i1.insI
      obtain ⟨k1, k2, k3, k4⟩ := k.ok c j ej
      obtain ⟨x, ex, ix⟩ := l.get ed
      exact ⟨a, T.cl c, dx, fs, x, rfl, w1.f _ _ ha, k1, k2, lookup_at (by rw [hn]; exact k4) (by rw [hn]; exact k3) ex, gd F1 H1 x Gw.refl w1 ix⟩
    · exact q1.elim
  | _ => exact q1.elim
/-- self.f of an object that the slot i owns -/
def fldV (tbl : Nat → Option Nat) (i : Nat) : En → Out D := fun ρ => match ρ[i]? with
  | some (some (.oi c ds)) => (match tbl c with
    | some j => opt ds[j]? ρ
    | none => .er)
  | some (some (.im (.ins c ds))) => (match tbl c with
    | some j => opt ds[j]? ρ
    | none => .er)
  | _ => .er
theorem pf_fldV {f : Str} {tbl : Nat → Option Nat} {i : Nat} (k : FldOk X.K T f tbl) (he : PE X e (tVar i)) (hb : attributeBase e f X.env (eval e X.env) = eval e X.env := by rfl) : PF X T W (.Attribute e f pos) (fldV tbl i) := by
  refine ⟨_, pe_fld he hb, fun B F H σ ρ Q w q => ?_⟩
  unfold fldV at q
  split at q
  · rename_i c ds e
    obtain ⟨v, fp, ev, o, _⟩ := w.own e
    split at q
    · rename_i j ej
      obtain ⟨d, ed, gd⟩ := opt_post q
      obtain ⟨a, dx, fs, rfl, _, ha, hn, l⟩ := o.oiI
      obtain ⟨k1, k2, k3, k4⟩ := k.ok c j ej
      obtain ⟨x, ex, ix⟩ := l.get ed
      have hj : j < ds.length := (List.getElem?_eq_some_iff.mp ed).1
      refine ⟨_, ev, a, T.cl c, dx, fs, x, rfl, ha, k1, k2, lookup_at (by rw [hn]; exact k4.sublist (List.take_sublist _ _)) (by rw [hn, List.getElem?_take_of_lt hj]; exact k3) ex, gd F H x Gw.refl w ix⟩
    · exact q.elim
  · rename_i c ds e
    obtain ⟨v, ev, iv⟩ := w.get e
    split at q
    · rename_i j ej
      obtain ⟨d, ed, gd⟩ := opt_post q
      obtain ⟨a, dx, fs, rfl, ha, hn, l⟩ := iv.insI
      obtain ⟨k1, k2, k3, k4⟩ := k.ok c j ej
      obtain ⟨x, ex, ix⟩ := l.get ed
      exact ⟨_, ev, a, T.cl c, dx, fs, x, rfl, w.f _ _ ha, k1, k2, lookup_at (by rw [hn]; exact k4) (by rw [hn]; exact k3) ex, gd F H x Gw.refl w ix⟩
    · exact q.elim
  · exact q.elim

/-! ### views of lists -/
/-- a slot's list as it stands -/
def vw (i : Nat) : En → Out (List D) := fun ρ => match ρ[i]? with
  | some (some (.im (.lst ds))) => .ok ds ρ
  | some (some (.ol ds)) => .ok ds ρ
  | _ => .er
theorem slot_list {K : PySem.W.Frag} {B F H : Hp} {σ : L2.St} {ρ : En} {i : Nat} {ds : List D} (w : Wd K T B F H σ ρ) (h : ρ[i]? = some (some (.im (.lst ds))) ∨ ρ[i]? = some (some (.ol ds))) : ∃ a vs, σ[i]? = some (some (.ref a)) ∧ SqL K H a vs ∧ IsL K T F vs ds := by
  rcases h with h | h
  · obtain ⟨v, ev, iv⟩ := w.get h
    obtain ⟨a, vs, rfl, s, l⟩ := iv.lstI
    exact ⟨a, vs, ev, w.f.seq s, l⟩
  · obtain ⟨v, fp, ev, o, _⟩ := w.own h
    obtain ⟨a, vs, rfl, _, ha, l⟩ := o.olI
    exact ⟨a, vs, ev, SqL.of ha, l⟩
theorem vw_ok {ρ ρ' : En} {i : Nat} {ds : List D} (h : vw i ρ = .ok ds ρ') : ρ' = ρ ∧ (ρ[i]? = some (some (.im (.lst ds))) ∨ ρ[i]? = some (some (.ol ds))) := by
  unfold vw at h
  split at h
  · cases h; exact ⟨rfl, .inl (by assumption)⟩
  · cases h; exact ⟨rfl, .inr (by assumption)⟩
  · cases h
theorem vf_v {i : Nat} (h : PE X e (tVar i)) : VF X T W e (vw i) := by
  refine ⟨_, h, fun B F H σ ρ Q w q => ?_⟩
  cases e' : vw i ρ with
  | ok ds ρ' =>
    obtain ⟨rfl, hs⟩ := vw_ok e'
    rw [e'] at q
    obtain ⟨a, vs, ev, s, l⟩ := slot_list w hs
    exact ⟨_, ev, q F H a vs Gw.refl w s l⟩
  | ex x ρ' => unfold vw at e'; split at e' <;> cases e'
  | er => rw [e'] at q; exact q.elim
def ofL (f : En → Out D) : En → Out (List D) := fun ρ => (f ρ).bind fun d ρ => match d with
  | .lst ds => .ok ds ρ
  | _ => .er
theorem vf_f (h : PF X T W e f) : VF X T W e (ofL f) := by
  obtain ⟨t, ht, hp⟩ := h
  refine ⟨t, ht, fun B F H σ ρ Q w q => hp B F H σ ρ Q w ((PostX.bind q).imp fun d ρ' _ q F' H' v g w' i => ?_)⟩
  cases d with
  | lst ds =>
    obtain ⟨a, vs, rfl, s, l⟩ := i.lstI
    exact q F' H' a vs g w' (w'.f.seq s) l
  | _ => exact q.elim

/-! ### calls of built-ins by values -/
/-- the built-in (or type) f on frozen values -/
structure CF (X : Cx) (T : Ct) (W : WX) (f : Value) (m : List D → En → Out D) : Prop where
  ex : ∃ r, CallR X f r ∧ ∀ (B F H : Hp) (σ : L2.St) (ρ : En) (Q : VK) vs ds, Wd X.K T B F H σ ρ → IsL X.K T F vs ds → Post X.K T W B F σ (Is X.K T) (m ds ρ) Q → r vs H Q
def cl1 (m : List D → En → Out D) (g : En → Out (List D)) : En → Out D := fun ρ => (g ρ).bind m
section
variable {x : Str} {id : String} {m : List D → En → Out D} {g : En → Out (List D)}
theorem pf_callB (k : CF X T W (.builtin id) m) (hg : Gl X x) (hm : X.mg x = none) (hv : bootBuiltins x = some (.builtin id)) (ha : AF X T W (e :: es) g) (hn : x ≠ "__name__" := by decide) (hdb : (x == ("__debug__" : Str)) = false := by decide)
    (he : starEach (e :: es) X.env = (false, eval e X.env) :: starEach es X.env := by rfl) (hpl : (backTo pos (starEach es X.env)).any (·.1) = false := by rfl) : PF X T W (.Call (.Name x p) (e :: es) [] pos) (cl1 m g) := by
  obtain ⟨r, hr, hk⟩ := k
  obtain ⟨t, ht, hp⟩ := ha
  exact ⟨_, pe_callB hr hg hm hv ht hn hdb he hpl, fun B F H σ ρ Q w q => hp B F H σ ρ _ w (Post.step q fun ds ρ1 F1 H1 vs g1 w1 l q1 => hk B F1 H1 σ ρ1 Q vs ds w1 l q1)⟩
theorem pf_callTy (k : CF X T W (.type id) m) (hg : Gl X x) (hm : X.mg x = none) (hv : bootBuiltins x = some (.type id)) (ha : AF X T W (e :: es) g) (hn : x ≠ "__name__" := by decide) (hdb : (x == ("__debug__" : Str)) = false := by decide)
    (he : starEach (e :: es) X.env = (false, eval e X.env) :: starEach es X.env := by rfl) (hpl : (backTo pos (starEach es X.env)).any (·.1) = false := by rfl) : PF X T W (.Call (.Name x p) (e :: es) [] pos) (cl1 m g) := by
  obtain ⟨r, hr, hk⟩ := k
  obtain ⟨t, ht, hp⟩ := ha
  exact ⟨_, pe_callTy hr hg hm hv ht hn hdb he hpl, fun B F H σ ρ Q w q => hp B F H σ ρ _ w (Post.step q fun ds ρ1 F1 H1 vs g1 w1 l q1 => hk B F1 H1 σ ρ1 Q vs ds w1 l q1)⟩
theorem pf_callG (k : CF X T W (.builtin id) m) (hg : Gl X x) (hm : X.mg x = some (.builtin id)) (ha : AF X T W (e :: es) g) (hdb : (x == ("__debug__" : Str)) = false := by decide)
    (he : starEach (e :: es) X.env = (false, eval e X.env) :: starEach es X.env := by rfl) (hpl : (backTo pos (starEach es X.env)).any (·.1) = false := by rfl) : PF X T W (.Call (.Name x p) (e :: es) [] pos) (cl1 m g) := by
  obtain ⟨r, hr, hk⟩ := k
  obtain ⟨t, ht, hp⟩ := ha
  exact ⟨_, pe_callBfun hr hg hm ht hdb he hpl, fun B F H σ ρ Q w q => hp B F H σ ρ _ w (Post.step q fun ds ρ1 F1 H1 vs g1 w1 l q1 => hk B F1 H1 σ ρ1 Q vs ds w1 l q1)⟩
end
/-- a built-in by a function of the values, that changes nothing -/
theorem cf_pure {f : Value} {r : List V → Hp → VK → Prop} {k : List D → Option D} (h : CallR X f r) (hk : ∀ F H vs ds d Q, Same F H → IsL X.K T F vs ds → k ds = some d → (∀ v, Is X.K T F v d → Q v H) → r vs H Q) : CF X T W f (fun ds => opt (k ds)) := by
  refine ⟨r, h, fun B F H σ ρ Q vs ds w l q => ?_⟩
  obtain ⟨d, e, gd⟩ := opt_post q
  exact hk F H vs ds d Q w.f l e fun v i => gd F H v Gw.refl w i
theorem IsL.one {K : PySem.W.Frag} {F : Hp} {vs : List V} {d : D} (l : IsL K T F vs [d]) : ∃ v, vs = [v] ∧ Is K T F v d := by
  cases l with
  | cons h l => cases l; exact ⟨_, rfl, h⟩
theorem IsL.two {K : PySem.W.Frag} {F : Hp} {vs : List V} {d d2 : D} (l : IsL K T F vs [d, d2]) : ∃ v u, vs = [v, u] ∧ Is K T F v d ∧ Is K T F u d2 := by
  cases l with
  | cons h l =>
    obtain ⟨u, rfl, h2⟩ := l.one
    exact ⟨_, _, rfl, h, h2⟩
/-- len -/
def kLen : List D → Option D
  | [.lst ds] => some (.int ds.length)
  | [.tup ds] => some (.int ds.length)
  | [.str s] => if decide (s.length ≤ sizeLine) then some (.int s.length) else none
  | _ => none
theorem cf_len : CF X T W (.builtin "len") (fun ds => opt (kLen ds)) := cf_pure call_len fun F H vs ds d Q g l e q => by
  unfold kLen at e
  split at e
  · cases e
    obtain ⟨v, rfl, i⟩ := l.one
    obtain ⟨a, vs, rfl, s, l'⟩ := i.lstI
    exact ⟨_, vs.length, rfl, .inl ⟨vs, g.seq s, rfl⟩, by rw [l'.length]; exact q _ (.int _)⟩
  · cases e
    obtain ⟨v, rfl, i⟩ := l.one
    obtain ⟨a, vs, rfl, s, l'⟩ := i.tupI
    exact ⟨_, vs.length, rfl, .inr ⟨vs, same_seq g s, rfl⟩, by rw [l'.length]; exact q _ (.int _)⟩
  · split at e
    · rename_i s hz
      cases e
      obtain ⟨v, rfl, i⟩ := l.one
      rw [i.strI]
      exact ⟨_, s.length, rfl, ⟨of_decide_eq_true hz, rfl⟩, q _ (.int _)⟩
    · cases e
  · cases e
/-- len of a list that is looked at -/
def vLen (f : En → Out (List D)) : En → Out D := fun ρ => (f ρ).bind fun ds ρ => .ok (.int ds.length) ρ
theorem pf_lenV {f : En → Out (List D)} {x : Str} (he : VF X T W e f) (hg : Gl X x) (hm : X.mg x = none) (hv : bootBuiltins x = some (.builtin "len")) (hn : x ≠ "__name__" := by decide) (hdb : (x == ("__debug__" : Str)) = false := by decide)
    (hs : starEach [e] X.env = (false, eval e X.env) :: starEach [] X.env := by rfl) (hpl : (backTo pos (starEach [] X.env)).any (·.1) = false := by rfl) : PF X T W (.Call (.Name x p) [e] [] pos) (vLen f) := by
  obtain ⟨t, ht, hp⟩ := he
  refine ⟨_, pe_callB call_len hg hm hv (pa_cons ht pa_nil hs) hn hdb hs hpl, fun B F H σ ρ Q w q => hp B F H σ ρ _ w ((PostX.bind q).imp fun ds ρ1 _ q1 F1 H1 a vs g1 w1 s l => ?_)⟩
  exact ⟨_, vs.length, rfl, .inl ⟨vs, s, rfl⟩, by rw [l.length]; exact q1 F1 H1 _ g1 w1 (.int _)⟩
/-- abs, max, min of two ints, int, gcd -/
def k1 (g : Int → D) : List D → Option D
  | [.int i] => some (g i)
  | _ => none
def k2 (g : Int → Int → D) : List D → Option D
  | [.int i, .int j] => some (g i j)
  | _ => none
theorem cf_abs : CF X T W (.builtin "abs") (fun ds => opt (k1 (fun i => .int (if i < 0 then -i else i)) ds)) := cf_pure call_abs fun F H vs ds d Q g l e q => by
  unfold k1 at e
  split at e
  · cases e
    obtain ⟨v, rfl, i⟩ := l.one
    rw [i.intI]
    exact ⟨_, rfl, q _ (.int _)⟩
  · cases e
theorem cf_max2 (hc : X.calm = true) : CF X T W (.builtin "max") (fun ds => opt (k2 (fun i j => .int (if j > i then j else i)) ds)) := cf_pure (call_max2 hc) fun F H vs ds d Q g l e q => by
  unfold k2 at e
  split at e
  · cases e
    obtain ⟨v, u, rfl, i, j⟩ := l.two
    rw [i.intI, j.intI]
    exact ⟨_, _, rfl, q _ (.int _)⟩
  · cases e
theorem cf_min2 (hc : X.calm = true) : CF X T W (.builtin "min") (fun ds => opt (k2 (fun i j => .int (if j < i then j else i)) ds)) := cf_pure (call_min2 hc) fun F H vs ds d Q g l e q => by
  unfold k2 at e
  split at e
  · cases e
    obtain ⟨v, u, rfl, i, j⟩ := l.two
    rw [i.intI, j.intI]
    exact ⟨_, _, rfl, q _ (.int _)⟩
  · cases e
theorem cf_gcd : CF X T W (.builtin "math.gcd") (fun ds => opt (k2 (fun i j => .int ((Nat.gcd i.natAbs j.natAbs : Nat) : Int)) ds)) := cf_pure cr_gcd fun F H vs ds d Q g l e q => by
  unfold k2 at e
  split at e
  · cases e
    obtain ⟨v, u, rfl, i, j⟩ := l.two
    rw [i.intI, j.intI]
    exact ⟨_, _, rfl, q _ (.int _)⟩
  · cases e
def kInt : List D → Option D
  | [.int i] => some (.int i)
  | [.bl k] => some (.int (if k then 1 else 0))
  | _ => none
theorem cf_int : CF X T W (.type "int") (fun ds => opt (kInt ds)) := cf_pure call_int1 fun F H vs ds d Q g l e q => by
  unfold kInt at e
  split at e
  · cases e
    obtain ⟨v, rfl, i⟩ := l.one
    rw [i.intI]
    exact .inl ⟨_, rfl, q _ (.int _)⟩
  · cases e
    obtain ⟨v, rfl, i⟩ := l.one
    rw [i.blI]
    exact .inr ⟨_, rfl, q _ (.int _)⟩
  · cases e
def kStr : List D → Option D
  | [.int i] => if decide (i.natAbs.log2 < 1920) then some (.str (toString i)) else none
  | _ => none
theorem cf_str : CF X T W (.type "str") (fun ds => opt (kStr ds)) := cf_pure call_str_int fun F H vs ds d Q g l e q => by
  unfold kStr at e
  split at e
  · split at e
    · rename_i h
      cases e
      obtain ⟨v, rfl, i⟩ := l.one
      rw [i.intI]
      exact ⟨_, rfl, of_decide_eq_true h, q _ (.str _)⟩
    · cases e
  · cases e
/-- tuple(xs), list(xs) -/
def kTup : List D → Option D
  | [.lst ds] => some (.tup ds)
  | [.tup ds] => some (.tup ds)
  | _ => none
theorem cf_tuple : CF X T W (.type "tuple") (fun ds => opt (kTup ds)) := by
  refine ⟨_, call_tuple_of, fun B F H σ ρ Q vs ds w l q => ?_⟩
  obtain ⟨d, e, gd⟩ := opt_post q
  unfold kTup at e
  split at e
  · cases e
    obtain ⟨v, rfl, i⟩ := l.one
    obtain ⟨a, vs, rfl, s, l'⟩ := i.lstI
    refine ⟨a, vs, rfl, .inl ⟨w.f.seq s, fun p hp => ?_⟩⟩
    obtain ⟨g2, w2⟩ := w.new (u := .tup vs) hp
    exact gd _ _ _ g2 w2 (.tup (SqT.of upd_same) (l'.mono g2.s))
  · cases e
    obtain ⟨v, rfl, i⟩ := l.one
    obtain ⟨a, vs, rfl, s, l'⟩ := i.tupI
    exact ⟨a, vs, rfl, .inr ⟨same_seq w.f s, gd F H _ Gw.refl w i⟩⟩
  · cases e
/-- tuple of a list that is looked at -/
def vTupO (f : En → Out (List D)) : En → Out D := fun ρ => (f ρ).bind fun ds ρ => .ok (.tup ds) ρ
theorem pf_tupV {f : En → Out (List D)} {x : Str} (he : VF X T W e f) (hg : Gl X x) (hm : X.mg x = none) (hv : bootBuiltins x = some (.type "tuple")) (hn : x ≠ "__name__" := by decide) (hdb : (x == ("__debug__" : Str)) = false := by decide)
    (hs : starEach [e] X.env = (false, eval e X.env) :: starEach [] X.env := by rfl) (hpl : (backTo pos (starEach [] X.env)).any (·.1) = false := by rfl) : PF X T W (.Call (.Name x p) [e] [] pos) (vTupO f) := by
  obtain ⟨t, ht, hp⟩ := he
  refine ⟨_, L2.pe_callTy call_tuple_of hg hm hv (pa_cons ht pa_nil hs) hn hdb hs hpl, fun B F H σ ρ Q w q => hp B F H σ ρ _ w ((PostX.bind q).imp fun ds ρ1 _ q1 F1 H1 a vs g1 w1 s l => ?_)⟩
  refine ⟨a, vs, rfl, .inl ⟨s, fun p hp => ?_⟩⟩
  obtain ⟨g2, w2⟩ := w1.new (u := .tup vs) hp
  exact q1 _ _ _ (g1.trans g2) w2 (.tup (SqT.of upd_same) (l.mono g2.s))
/-- list(xs), xs a list or a tuple -/
def nList (f : En → Out D) : En → Out (List D) := fun ρ => (f ρ).bind fun d ρ => match d with
  | .lst ds => .ok ds ρ
  | .tup ds => .ok ds ρ
  | _ => .er
theorem pn_list {x : Str} (he : PF X T W e f) (hg : Gl X x) (hm : X.mg x = none) (hv : bootBuiltins x = some (.type "list")) (hn : x ≠ "__name__" := by decide) (hdb : (x == ("__debug__" : Str)) = false := by decide)
    (hs : starEach [e] X.env = (false, eval e X.env) :: starEach [] X.env := by rfl) (hpl : (backTo pos (starEach [] X.env)).any (·.1) = false := by rfl) : PN X T W (.Call (.Name x p) [e] [] pos) (nList f) := by
  obtain ⟨t, ht, hp⟩ := he
  refine ⟨_, L2.pe_callTy call_list_of hg hm hv (pa_cons ht pa_nil hs) hn hdb hs hpl, fun B F H σ ρ Q w q => hp B F H σ ρ _ w (PostN.step q fun d ρ1 F1 H1 v g1 w1 i q1 => ?_)⟩
  cases d with
  | lst ds =>
    obtain ⟨a, vs, rfl, s, l⟩ := i.lstI
    exact ⟨a, vs, rfl, .inl (w1.f.seq s), fun p hp => q1 F1 _ p vs Gw.refl (w1.nofree hp).2 (w1.nofree hp).1 (w1.fresh hp) l⟩
  | tup ds =>
    obtain ⟨a, vs, rfl, s, l⟩ := i.tupI
    exact ⟨a, vs, rfl, .inr (same_seq w1.f s), fun p hp => q1 F1 _ p vs Gw.refl (w1.nofree hp).2 (w1.nofree hp).1 (w1.fresh hp) l⟩
  | _ => exact q1.elim
def nCopy (f : En → Out (List D)) : En → Out (List D) := f
theorem pn_listV {f : En → Out (List D)} {x : Str} (he : VF X T W e f) (hg : Gl X x) (hm : X.mg x = none) (hv : bootBuiltins x = some (.type "list")) (hn : x ≠ "__name__" := by decide) (hdb : (x == ("__debug__" : Str)) = false := by decide)
    (hs : starEach [e] X.env = (false, eval e X.env) :: starEach [] X.env := by rfl) (hpl : (backTo pos (starEach [] X.env)).any (·.1) = false := by rfl) : PN X T W (.Call (.Name x p) [e] [] pos) f := by
  obtain ⟨t, ht, hp⟩ := he
  refine ⟨_, L2.pe_callTy call_list_of hg hm hv (pa_cons ht pa_nil hs) hn hdb hs hpl, fun B F H σ ρ Q w q => hp B F H σ ρ _ w (PostX.imp q fun ds ρ1 _ q1 F1 H1 a vs g1 w1 s l => ?_)⟩
  exact ⟨a, vs, rfl, .inl s, fun p hp => q1 F1 _ p vs g1 (w1.nofree hp).2 (w1.nofree hp).1 (w1.fresh hp) l⟩

/-! ### items -/
theorem atI_is {K : PySem.W.Frag} {F : Hp} {vs : List V} {ds : List D} {i : Int} {d : D} (l : IsL K T F vs ds) (h : atI ds i = some d) : ∃ v, atI vs i = some v ∧ Is K T F v d := by
  unfold atI at h ⊢
  rw [l.length]
  cases e : ixN ds.length i with
  | none => rw [e] at h; cases h
  | some j =>
    rw [e] at h
    exact l.get h
/-- an item of a list, a tuple, a text -/
def itm : D → D → Option D
  | .lst ds, .int i => atI ds i
  | .tup ds, .int i => atI ds i
  | .str s, .int i => if decide (s.length ≤ sizeLine) then (atI s.cps.toList i).map fun c => .str ⟨#[c]⟩ else none
  | _, _ => none
def ix (fa fb : En → Out D) : En → Out D := fun ρ => (fa ρ).bind fun x ρ => (fb ρ).bind fun y ρ => opt (itm x y) ρ
theorem pf_ix (ha : PF X T W a fa) (hb : PF X T W b fb) (hs : PlainIx b := by intro _ _; rfl) : PF X T W (.Subscript a b pos) (ix fa fb) := by
  obtain ⟨t, ht, hp⟩ := ha
  obtain ⟨u, hu, hq⟩ := hb
  refine ⟨_, pe_ix ix_seq ht hu hs, fun B F H σ ρ Q w q => hp B F H σ ρ _ w (Post.step q fun x ρ1 F1 H1 v1 g1 w1 i1 q1 => ?_)⟩
  refine hq B F1 H1 σ ρ1 _ w1 (Post.step q1 fun y ρ2 F2 H2 v2 g2 w2 i2 q2 => ?_)
  obtain ⟨d, e, gd⟩ := opt_post q2
  unfold itm at e
  split at e
  · obtain ⟨a, vs, rfl, s, l⟩ := (i1.mono g2.s).lstI
    obtain ⟨v, ev, iv⟩ := atI_is l e
    exact .inl ⟨a, vs, _, v, rfl, i2.intI, w2.f.seq s, ev, gd F2 H2 v Gw.refl w2 iv⟩
  · obtain ⟨a, vs, rfl, s, l⟩ := (i1.mono g2.s).tupI
    obtain ⟨v, ev, iv⟩ := atI_is l e
    exact .inr (.inl ⟨a, vs, _, v, rfl, i2.intI, same_seq w2.f s, ev, gd F2 H2 v Gw.refl w2 iv⟩)
  · split at e
    · rename_i hz
      obtain ⟨c, ec, rfl⟩ := Option.map_eq_some_iff.mp e
      exact .inr (.inr ⟨_, _, c, i1.strI, i2.intI, of_decide_eq_true hz, ec, gd F2 H2 _ Gw.refl w2 (.str _)⟩)
    · cases e
  · cases e
/-- an item of a slot's list -/
def ixV (i : Nat) (fb : En → Out D) : En → Out D := fun ρ => (vw i ρ).bind fun _ ρ => (fb ρ).bind fun y ρ => (vw i ρ).bind fun ds ρ => match y with
  | .int k => opt (atI ds k) ρ
  | _ => .er
theorem vw_bind {α : Type} {K : PySem.W.Frag} {B F : Hp} {σ : L2.St} {ρ : En} {i : Nat} {k : List D → En → Out α} {g : α → En → Prop} (q : PostX K T W B F σ g ((vw i ρ).bind k)) :
    ∃ ds, (ρ[i]? = some (some (.im (.lst ds))) ∨ ρ[i]? = some (some (.ol ds))) ∧ PostX K T W B F σ g (k ds ρ) := by
  cases e : vw i ρ with
  | ok ds ρ' =>
    obtain ⟨rfl, hs⟩ := vw_ok e
    rw [e] at q
    exact ⟨ds, hs, q⟩
  | ex x ρ' => unfold vw at e; split at e <;> cases e
  | er => rw [e] at q; exact q.elim
theorem pf_ixV {i : Nat} (ha : PE X a (tVar i)) (hb : PF X T W b fb) (hs : PlainIx b := by intro _ _; rfl) : PF X T W (.Subscript a b pos) (ixV i fb) := by
  obtain ⟨u, hu, hq⟩ := hb
  refine ⟨_, pe_ix ix_list ha hu hs, fun B F H σ ρ Q w q => ?_⟩
  obtain ⟨ds0, hs0, q0⟩ := vw_bind q
  obtain ⟨p, vs0, ev, _, _⟩ := slot_list w hs0
  refine ⟨_, ev, hq B F H σ ρ _ w (Post.step q0 fun y ρ1 F1 H1 v1 g1 w1 i1 q1 => ?_)⟩
  obtain ⟨ds, hs1, q1⟩ := vw_bind q1
  obtain ⟨p', vs, ev', s, l⟩ := slot_list w1 hs1
  rw [ev] at ev'
  cases ev'
  cases y with
  | int k =>
    obtain ⟨d, e, gd⟩ := opt_post q1
    obtain ⟨x, ex, ix⟩ := atI_is l e
    exact ⟨p, vs, k, x, rfl, i1.intI, s, ex, gd F1 H1 x Gw.refl w1 ix⟩
  | _ => exact q1.elim

/-! ### slices -/
/-- a slice's part -/
structure SF (X : Cx) (T : Ct) (W : WX) (e : Option Expr) (f : En → Out (Option Int)) : Prop where
  ex : ∃ t, PO X e t ∧ ∀ (B F H : Hp) (σ : L2.St) (ρ : En) (Q : Option Int → Hp → Prop), Wd X.K T B F H σ ρ → Post X.K T W B F σ (fun _ (b a : Option Int) => b = a) (f ρ) Q → t σ H Q
def noP : En → Out (Option Int) := fun ρ => .ok none ρ
def isP (f : En → Out D) : En → Out (Option Int) := fun ρ => (f ρ).bind fun d ρ => match d with
  | .int i => .ok (some i) ρ
  | _ => .er
theorem sf_none : SF X T W none noP := ⟨_, po_none, fun B F H σ ρ Q w q => q F H none Gw.refl w rfl⟩
theorem sf_some (h : PF X T W e f) : SF X T W (some e) (isP f) := by
  obtain ⟨t, ht, hp⟩ := h
  refine ⟨_, po_some ht, fun B F H σ ρ Q w q => hp B F H σ ρ _ w (Post.step q fun d ρ1 F1 H1 v g1 w1 i1 q1 => ?_)⟩
  cases d with
  | int k => exact ⟨k, i1.intI, q1 F1 H1 _ Gw.refl w1 rfl⟩
  | _ => exact q1.elim
def cutD (ds : List D) (lo hi : Option Int) : List D := (ds.drop (HT.sIx ds.length 0 lo)).take (HT.sIx ds.length ds.length hi - HT.sIx ds.length 0 lo)
theorem cut_is {K : PySem.W.Frag} {F : Hp} {vs : List V} {ds : List D} (l : IsL K T F vs ds) (lo hi : Option Int) : IsL K T F (cutV vs lo hi) (cutD ds lo hi) := by
  unfold cutV cutD
  rw [l.length]
  exact (l.drop _).take _
variable {lo hi : Option Expr} {fl fh : En → Out (Option Int)}
/-- a list's slice: a new list -/
def nSl (f : En → Out D) (fl fh : En → Out (Option Int)) : En → Out (List D) := fun ρ => (f ρ).bind fun d ρ => (fl ρ).bind fun lo ρ => (fh ρ).bind fun hi ρ => match d with
  | .lst ds => .ok (cutD ds lo hi) ρ
  | _ => .er
theorem pn_sl (he : PF X T W e f) (hl : SF X T W lo fl) (hh : SF X T W hi fh) : PN X T W (.Subscript e (.Slice lo hi none p2) pos) (nSl f fl fh) := by
  obtain ⟨t, ht, hp⟩ := he
  obtain ⟨u, hu, hq⟩ := hl
  obtain ⟨z, hz, hr⟩ := hh
  refine ⟨_, pe_slice sl_list ht hu hz, fun B F H σ ρ Q w q => hp B F H σ ρ _ w (PostN.step q fun d ρ1 F1 H1 v1 g1 w1 i1 q1 => ?_)⟩
  refine hq B F1 H1 σ ρ1 _ w1 (PostN.step q1 fun l ρ2 F2 H2 l' g2 w2 e2 q2 => ?_)
  cases e2
  refine hr B F2 H2 σ ρ2 _ w2 (PostN.step q2 fun h ρ3 F3 H3 h' g3 w3 e3 q3 => ?_)
  cases e3
  cases d with
  | lst ds =>
    obtain ⟨a, vs, rfl, s, ls⟩ := ((i1.mono g2.s).mono g3.s).lstI
    exact ⟨a, vs, rfl, w3.f.seq s, fun p hp => q3 F3 _ p _ Gw.refl (w3.nofree hp).2 (w3.nofree hp).1 (w3.fresh hp) (cut_is ls _ _)⟩
  | _ => exact q3.elim
/-- a slice of a slot's list -/
def nSlV (i : Nat) (fl fh : En → Out (Option Int)) : En → Out (List D) := fun ρ => (vw i ρ).bind fun _ ρ => (fl ρ).bind fun lo ρ => (fh ρ).bind fun hi ρ => (vw i ρ).bind fun ds ρ => .ok (cutD ds lo hi) ρ
theorem pn_slV {i : Nat} (ha : PE X e (tVar i)) (hl : SF X T W lo fl) (hh : SF X T W hi fh) : PN X T W (.Subscript e (.Slice lo hi none p2) pos) (nSlV i fl fh) := by
  obtain ⟨u, hu, hq⟩ := hl
  obtain ⟨z, hz, hr⟩ := hh
  refine ⟨_, pe_slice sl_list ha hu hz, fun B F H σ ρ Q w q => ?_⟩
  obtain ⟨ds0, hs0, q0⟩ := vw_bind q
  obtain ⟨p, vs0, ev, _, _⟩ := slot_list w hs0
  refine ⟨_, ev, hq B F H σ ρ _ w (PostN.step q0 fun l ρ2 F2 H2 l' g2 w2 e2 q2 => ?_)⟩
  cases e2
  refine hr B F2 H2 σ ρ2 _ w2 (PostN.step q2 fun h ρ3 F3 H3 h' g3 w3 e3 q3 => ?_)
  cases e3
  obtain ⟨ds, hs1, q4⟩ := vw_bind q3
  obtain ⟨p', vs, ev', s, ls⟩ := slot_list w3 hs1
  rw [ev] at ev'
  cases ev'
  exact ⟨p, vs, rfl, s, fun p hp => q4 F3 _ p _ Gw.refl (w3.nofree hp).2 (w3.nofree hp).1 (w3.fresh hp) (cut_is ls _ _)⟩
/-- a tuple's slice; a text's -/
def slT (d : D) (lo hi : Option Int) : Option D := match d with
  | .tup ds => some (.tup (cutD ds lo hi))
  | .str s => if decide (s.length ≤ sizeLine) then some (.str (cutS s lo hi)) else none
  | _ => none
def sl3 (f : En → Out D) (fl fh : En → Out (Option Int)) : En → Out D := fun ρ => (f ρ).bind fun d ρ => (fl ρ).bind fun lo ρ => (fh ρ).bind fun hi ρ => opt (slT d lo hi) ρ
theorem pf_sl (he : PF X T W e f) (hl : SF X T W lo fl) (hh : SF X T W hi fh) : PF X T W (.Subscript e (.Slice lo hi none p2) pos) (sl3 f fl fh) := by
  obtain ⟨t, ht, hp⟩ := he
  obtain ⟨u, hu, hq⟩ := hl
  obtain ⟨z, hz, hr⟩ := hh
  refine ⟨_, pe_slice (sl_tupA.or sl_str) ht hu hz, fun B F H σ ρ Q w q => hp B F H σ ρ _ w (Post.step q fun d ρ1 F1 H1 v1 g1 w1 i1 q1 => ?_)⟩
  refine hq B F1 H1 σ ρ1 _ w1 (Post.step q1 fun l ρ2 F2 H2 l' g2 w2 e2 q2 => ?_)
  cases e2
  refine hr B F2 H2 σ ρ2 _ w2 (Post.step q2 fun h ρ3 F3 H3 h' g3 w3 e3 q3 => ?_)
  cases e3
  obtain ⟨r, er, gd⟩ := opt_post q3
  unfold slT at er
  split at er
  · cases er
    obtain ⟨a, vs, rfl, s, ls⟩ := ((i1.mono g2.s).mono g3.s).tupI
    refine .inl ⟨a, vs, rfl, same_seq w3.f s, fun hn => ?_, fun _ p hp => ?_⟩
    · refine gd _ _ _ Gw.refl w3 (.tup s ?_)
      have e : cutV vs l h = vs := by
        unfold cutV
        rw [hn.1, hn.2]
        simp
      have z := cut_is ls l h
      rw [e] at z
      exact z
    · obtain ⟨g4, w4⟩ := w3.new (u := .tup (cutV vs l h)) hp
      exact gd _ _ _ g4 w4 (.tup (SqT.of upd_same) ((cut_is ls _ _).mono g4.s))
  · split at er
    · rename_i hz
      cases er
      exact .inr ⟨_, (i1).strI, of_decide_eq_true hz, gd F3 H3 _ Gw.refl w3 (.str _)⟩
    · cases er
  · cases er

/-! ### lists put together -/
/-- xs + ys, both tracked lists: new ones, or slots -/
def nCat (f g : En → Out (List D)) : En → Out (List D) := fun ρ => (f ρ).bind fun xs ρ => (g ρ).bind fun ys ρ => if decide (xs.length + ys.length ≤ sizeLine) then .ok (xs ++ ys) ρ else .er
theorem pn_cat {f g : En → Out (List D)} (ha : PN X T W a f) (hb : PN X T W b g) : PN X T W (.BinOp a .Add b pos) (nCat f g) := by
  obtain ⟨t, ht, hp⟩ := ha
  obtain ⟨u, hu, hq⟩ := hb
  refine ⟨_, pe_op op_cat ht hu, fun B F H σ ρ Q w q => hp B F H σ ρ _ w ((PostX.bind q).imp fun xs ρ1 _ q1 F1 H1 p vs g1 hb1 hf1 w1 l1 => ?_)⟩
  refine hq (upd B p (.lst vs)) F1 H1 σ ρ1 _ w1 ?_
  have q1' : PostX X.K T W B F1 σ (fun ys ρ => PostX X.K T W B F1 σ (goodN X.K T B F1 σ Q) (if decide (xs.length + ys.length ≤ sizeLine) then .ok (xs ++ ys) ρ else .er)) (g ρ1) := PostX.bind (PostN.gw q1 g1)
  have sb : Same B (upd B p (.lst vs)) := same_upd hb1
  cases eg : g ρ1 with
  | ok ys ρ2 =>
    rw [eg] at q1'
    intro F2 H2 p2 ws g2 hb2 hf2 w2 l2
    have q2 : PostX X.K T W B F1 σ (goodN X.K T B F1 σ Q) (if decide (xs.length + ys.length ≤ sizeLine) then .ok (xs ++ ys) ρ2 else .er) := q1'
    split at q2
    · rename_i hz
      have hz := of_decide_eq_true hz
      have np : p2 ≠ p := fun z => by subst z; rw [upd_same] at hb2; cases hb2
      have hb2' : B p2 = none := sb.free hb2
      have hp1 : H2 p = some (.lst vs) := w2.b _ _ (by rw [upd_ne (Ne.symm np)]; exact upd_same)
      have hp2 : H2 p2 = some (.lst ws) := w2.b _ _ upd_same
      refine ⟨p, p2, vs, ws, rfl, rfl, hp1, hp2, by rw [l1.length, l2.length]; exact hz, fun n hn => ?_⟩
      have w3 : Wd X.K T B F2 H2 σ ρ2 := w2.less (sb.trans (same_upd hb2))
      exact q2 F2 _ n _ (g2.less sb) (w3.nofree hn).2 (w3.nofree hn).1 (w3.fresh hn) ((l1.mono g2.s).append l2)
    · exact q2.elim
  | ex x ρ2 =>
    rw [eg] at q1'
    exact fun F2 H2 c dd g2 w2 e2 => q1' F2 H2 c dd (g2.less sb) (w2.less sb) e2
  | er => rw [eg] at q1'; exact q1'.elim
/-- xs * n -/
def nRep (f : En → Out (List D)) (g : En → Out D) : En → Out (List D) := fun ρ => (f ρ).bind fun xs ρ => (g ρ).bind fun y ρ => match y with
  | .int k => if decide (-(2 ^ 63) ≤ k ∧ k < 2 ^ 63 ∧ xs.length * k.toNat ≤ sizeLine) then .ok (List.replicate k.toNat xs).flatten ρ else .er
  | _ => .er
theorem pn_rep {f : En → Out (List D)} (ha : PN X T W a f) (hb : PF X T W b fb) : PN X T W (.BinOp a .Mult b pos) (nRep f fb) := by
  obtain ⟨t, ht, hp⟩ := ha
  obtain ⟨u, hu, hq⟩ := hb
  refine ⟨_, pe_op op_rep ht hu, fun B F H σ ρ Q w q => hp B F H σ ρ _ w ((PostX.bind q).imp fun xs ρ1 _ q1 F1 H1 p vs g1 hb1 hf1 w1 l1 => ?_)⟩
  refine hq (upd B p (.lst vs)) F1 H1 σ ρ1 _ w1 ?_
  have q1' := PostX.bind (PostN.gw q1 g1)
  have sb : Same B (upd B p (.lst vs)) := same_upd hb1
  cases eg : fb ρ1 with
  | ok y ρ2 =>
    rw [eg] at q1'
    intro F2 H2 v g2 w2 i2
    have hp1 : H2 p = some (.lst vs) := w2.b _ _ upd_same
    have w3 : Wd X.K T B F2 H2 σ ρ2 := w2.less sb
    cases y with
    | int k =>
      have q2 : PostX X.K T W B F1 σ (goodN X.K T B F1 σ Q) (if decide (-(2 ^ 63) ≤ k ∧ k < 2 ^ 63 ∧ xs.length * k.toNat ≤ sizeLine) then .ok (List.replicate k.toNat xs).flatten ρ2 else .er) := q1'
      split at q2
      · rename_i hz
        obtain ⟨z1, z2, z3⟩ := of_decide_eq_true hz
        refine ⟨p, k, vs, rfl, i2.intI, hp1, z1, z2, by rw [l1.length]; exact z3, fun n hn => ?_⟩
        exact q2 F2 _ n _ (g2.less sb) (w3.nofree hn).2 (w3.nofree hn).1 (w3.fresh hn) ((l1.mono g2.s).rep _)
      · exact q2.elim
    | _ => exact (show False from q1').elim
  | ex x ρ2 =>
    rw [eg] at q1'
    exact fun F2 H2 c dd g2 w2 e2 => q1' F2 H2 c dd (g2.less sb) (w2.less sb) e2
  | er => rw [eg] at q1'; exact (show False from q1').elim
end
end Ce
namespace Ce
open PySem PySem.Spec PyProof.Rows L2 Ce

/-! ### what a value does when it is called, at the caller's slots -/
abbrev R3 := L2.St → List V → Hp → VK → Prop
def CalR (X : Cx) (f : Value) (r : R3) : Prop := ∀ (pins : List (Addr × Obj)) (s : Shared) (σ : L2.St) (H : Hp) (us : List Value) (vs : List V) (Q : VK),
  Inv X pins σ H s → Vals vs us → r σ vs H Q → wpAny (model X.prog X.w) X.A (call f us) (EP X pins σ Q) X.xe s
/-- .. with keywords named ks -/
def CalK (X : Cx) (f : Value) (ks : List Str) (r : L2.St → List V → List V → Hp → VK → Prop) : Prop := ∀ (pins : List (Addr × Obj)) (s : Shared) (σ : L2.St) (H : Hp) (us ws : List Value) (vs zs : List V) (Q : VK),
  Inv X pins σ H s → Vals vs us → Vals zs ws → r σ vs zs H Q → wpAny (model X.prog X.w) X.A (call f us (ks.zip ws)) (EP X pins σ Q) X.xe s

section
variable {X : Cx} {CX : CXT} {k n : Nat} {f C : Addr} {fd : FuncData} {ps ks : List Str} {sp : Sp} {dvs : List V} {ds : List Value} {E : L2.St → XK} {g : List Value → List Value → List Value} {gV : List V → List V → List V}
theorem cal_fn (F : FnOk X.prog X.w X.K X.mg X.base CX k f fd ps sp) (hr : Room k X.A) (hb : Binds X.K fd ps ds) (hd : Vals dvs ds) (hx : ∀ σ, PassesAt CX X σ (E σ)) : CalR X (.ref f) (fun σ vs H Q => sp (vs ++ dvs) H Q (E σ)) :=
  fun _ _ σ _ _ _ _ I r q => run_fnSD F hr hb hd (hx σ) I r q
/-- how a call ends -/
theorem cal_end {σ : L2.St} {H : Hp} {s s' : Shared} {pins : List (Addr × Obj)} {Q : VK} {r : Result} (hx : PassesAt CX X σ (E σ)) (I : Inv X pins σ H s) (hq : CR CX X.stack X.prog X.w H s Q (E σ) r s') :
    match r with | .ok (.ret u) => EP X pins σ Q u s' | .ok _ => False | .error e => X.xe e s' := by
  cases r with
  | error e => exact hx pins H s e s' I hq
  | ok fl =>
    cases fl with
    | ret u => exact I.after hq
    | next => exact hq
    | brk => exact hq
    | cont => exact hq
theorem cal_fnK (F : FnOk X.prog X.w X.K X.mg X.base CX k f fd ps sp) (hr : Room k X.A) (hb : KBn X.K fd ps n ks g gV) (hx : ∀ σ, PassesAt CX X σ (E σ)) :
    CalK X (.ref f) ks (fun σ vs zs H Q => vs.length = n ∧ zs.length = ks.length ∧ sp (gV vs zs) H Q (E σ)) := by
  intro pins s σ H us ws vs zs Q I r rz ⟨l1, l2, q⟩
  have b := hb.to s us ws I.kIn (r.length ▸ l1) (rz.length ▸ l2)
  refine wpAny_call (codeAny_mono (F.run X.A X.stack s H ⟨us, ks.zip ws⟩ (g us ws) (gV vs zs) Q (E σ) hr I.env0 b (hb.rel r rz) q) fun r s' hq => ?_)
  have z := cal_end (hx σ) I hq
  revert z
  cases r with
  | error e => exact id
  | ok fl => cases fl <;> exact id
/-- a new instance, then its __init__ -/
def rMake (C : Addr) (sp : Sp) (E : L2.St → XK) (f : List V → List V) : R3 := fun σ vs H Q => ∀ x dx, H x = none → H dx = none → dx ≠ x →
  sp (.ref x :: f vs) (upd (upd H dx (.own x)) x (.ins C dx [])) (fun v H2 => v = .non ∧ Q (.ref x) H2) (E σ)
theorem cal_make (M : Mk X.K C f) (F : FnOk X.prog X.w X.K X.mg X.base CX k f fd ps sp) (hr : Room (k + 1) X.A) (hb : Binds X.K fd ps ds) (hd : Vals dvs ds) (hx : ∀ σ, PassesAt CX X σ (E σ)) : CalR X (.ref C) (rMake C sp E fun vs => vs ++ dvs) := by
  intro pins s σ H us vs Q I r q
  have q0 := q (s.heap.objs.size + 1) s.heap.objs.size (I.hok.fresh (Nat.le_succ _)) (I.hok.fresh (Nat.le_refl _)) (Nat.ne_of_lt (Nat.lt_succ_self _))
  have J := Inv.made (C := C) I
  have rr : Vals (V.ref (s.heap.objs.size + 1) :: (vs ++ dvs)) (Value.ref (s.heap.objs.size + 1) :: (us ++ ds)) := .cons rfl (r.append hd)
  have b := hb _ (Value.ref (s.heap.objs.size + 1) :: us) J.kIn (rr.length.symm.trans (F.len _ _ _ _ q0))
  have run := F.run _ X.stack _ _ ⟨Value.ref (s.heap.objs.size + 1) :: us, []⟩ (Value.ref (s.heap.objs.size + 1) :: (us ++ ds)) _ _ (E σ) (hr.make C us []) (J.env0.make C us []) b rr q0
  refine wpAny_call (make_map (f := f) I.kIn M.makes M.init (beq_iff_eq.mp M.fn) (codeAny_mono run fun r s' hq => ?_))
  have z := cal_end (hx σ) J hq
  cases r with
  | error e => exact z
  | ok fl =>
    cases fl with
    | ret u =>
      obtain ⟨v, H', I3, rv, ev, q3⟩ := z
      subst ev
      exact ⟨rv, .ref (s.heap.objs.size + 1), H', I3, rfl, q3⟩
    | next => exact z.elim
    | brk => exact z.elim
    | cont => exact z.elim
theorem cal_makeK (M : Mk X.K C f) (F : FnOk X.prog X.w X.K X.mg X.base CX k f fd ps sp) (hr : Room (k + 1) X.A) (hb : KBn X.K fd ps (n + 1) ks g gV) (hx : ∀ σ, PassesAt CX X σ (E σ)) :
    CalK X (.ref C) ks (fun σ vs zs H Q => vs.length = n ∧ zs.length = ks.length ∧ ∀ x dx, H x = none → H dx = none → dx ≠ x →
      sp (gV (.ref x :: vs) zs) (upd (upd H dx (.own x)) x (.ins C dx [])) (fun v H2 => v = .non ∧ Q (.ref x) H2) (E σ)) := by
  intro pins s σ H us ws vs zs Q I r rz ⟨l1, l2, q⟩
  have q0 := q (s.heap.objs.size + 1) s.heap.objs.size (I.hok.fresh (Nat.le_succ _)) (I.hok.fresh (Nat.le_refl _)) (Nat.ne_of_lt (Nat.lt_succ_self _))
  have J := Inv.made (C := C) I
  have r1 : Vals (V.ref (s.heap.objs.size + 1) :: vs) (Value.ref (s.heap.objs.size + 1) :: us) := .cons rfl r
  have b := hb.to _ (Value.ref (s.heap.objs.size + 1) :: us) ws J.kIn (by rw [← r1.length, List.length_cons, l1]) (rz.length ▸ l2)
  have run := F.run _ X.stack _ _ ⟨Value.ref (s.heap.objs.size + 1) :: us, ks.zip ws⟩ _ _ _ (E σ) (hr.make C us (ks.zip ws)) (J.env0.make C us (ks.zip ws)) b (hb.rel r1 rz) q0
  refine wpAny_call (make_map (f := f) I.kIn M.makes M.init (beq_iff_eq.mp M.fn) (codeAny_mono run fun r s' hq => ?_))
  have z := cal_end (hx σ) J hq
  cases r with
  | error e => exact z
  | ok fl =>
    cases fl with
    | ret u =>
      obtain ⟨v, H', I3, rv, ev, q3⟩ := z
      subst ev
      exact ⟨rv, .ref (s.heap.objs.size + 1), H', I3, rfl, q3⟩
    | next => exact z.elim
    | brk => exact z.elim
    | cont => exact z.elim
end

/-! ### calls as expressions -/
section
variable {X : Cx} {r : R3} {x m : Str} {u : Value} {p pos apos : Pos} {e o : Expr} {es : List Expr} {kws : List Keyword} {t tk : TA} {ta : TE}
def tCl (r : R3) (t : TA) : TE := fun σ H Q => t σ H fun vs H1 => r σ vs H1 Q
/-- x(e, ..), x a module's name for u -/
theorem pe_nm (c : CalR X u r) (hg : Gl X x) (hm : X.mg x = some u) (hk : PySem.W.keepIn X.K u = true) (ha : PA X (e :: es) t) (hdb : (x == ("__debug__" : Str)) = false := by decide)
    (he : starEach (e :: es) X.env = (false, eval e X.env) :: starEach es X.env := by rfl) (hpl : (backTo pos (starEach es X.env)).any (·.1) = false := by rfl) : PE X (.Call (.Name x p) (e :: es) [] pos) (tCl r t) :=
  ⟨fun pins s σ H Q I h => wpAny_Call_Name_kw (ld_glob I hg hm
    (PySem.W.callWith_K (h₀ := X.base) I.ok.mod.kin hk (thn (ha.run pos pins s σ H _ I h) fun us s1 ⟨vs, H1, I1, r1, q⟩ => ⟨I1.kIn, c pins s1 σ H1 us vs Q I1 r1 q⟩) he hpl) hdb)⟩
theorem pe_nm0 (c : CalR X u r) (hg : Gl X x) (hm : X.mg x = some u) (hk : PySem.W.keepIn X.K u = true) (hdb : (x == ("__debug__" : Str)) = false := by decide) : PE X (.Call (.Name x p) [] [] pos) (tCl r tNil) :=
  ⟨fun pins s σ H Q I h => wpAny_Call_Name_kw (ld_glob I hg hm (PySem.W.callWith_K0 I.kIn hk (c pins s σ H [] [] Q I .nil h)) hdb)⟩
/-- x(e, .., k = v, ..) -/
def tClK (r : L2.St → List V → List V → Hp → VK → Prop) (t tk : TA) : TE := fun σ H Q => t σ H fun vs H1 => tk σ H1 fun zs H2 => r σ vs zs H2 Q
theorem pe_nmK {ks : List Str} {r : L2.St → List V → List V → Hp → VK → Prop} (c : CalK X u ks r) (hg : Gl X x) (hm : X.mg x = some u) (hk : PySem.W.keepIn X.K u = true) (ha : PA X (e :: es) t) (hkw : PK X kws tk)
    (hall : (backToKw pos (keywordEach kws X.env)).all (·.1.isSome) = true := by rfl) (hks : (backToKw pos (keywordEach kws X.env)).filterMap (·.1) = ks := by rfl) (hdb : (x == ("__debug__" : Str)) = false := by decide)
    (he : starEach (e :: es) X.env = (false, eval e X.env) :: starEach es X.env := by rfl) (hpl : ((backTo pos (starEach (e :: es) X.env)).any (·.1) || (backToKw pos (keywordEach kws X.env)).any (·.1.isNone)) = false := by rfl) :
    PE X (.Call (.Name x p) (e :: es) kws pos) (tClK r t tk) := by
  refine ⟨fun pins s σ H Q I h => wpAny_Call_Name_kw (ld_glob I hg hm ?_ hdb)⟩
  refine PySem.W.callWith_KW (h₀ := X.base) I.ok.mod.kin hk hall (thn (ha.run pos pins s σ H _ I h) fun us s1 ⟨vs, H1, I1, r1, q⟩ => ?_) hpl he
  refine thn (hkw.run pos pins s1 σ H1 _ I1 q) fun ws s2 ⟨zs, H2, I2, rz, q2⟩ => ⟨I2.kIn, ?_⟩
  rw [hks]
  exact c pins s2 σ H2 us ws vs zs Q I2 r1 rz q2
/-- o.m(..), o an instance of the class at C: the method at f gets o first -/
def tMt (C : Addr) (m : Str) (r : R3) (ta : TE) (t : TA) : TE := fun σ H Q => ta σ H fun x H1 => ∃ a dx fs, x = .ref a ∧ H1 a = some (.ins C dx fs) ∧ fs.lookup m = none ∧ t σ H1 fun vs H2 => r σ (x :: vs) H2 Q
variable {C f : Addr} {pl : Sem Bool}
theorem pe_mt (he : PE X o ta) (c : Cls X.K C) (hm : Meth X.K C m f) (cl : CalR X (.ref f) r) (ha : PA X (e :: es) t)
    (hst : starEach (e :: es) X.env = (false, eval e X.env) :: starEach es X.env := by rfl) (hpl : (backTo pos (starEach es X.env)).any (·.1) = false := by rfl)
    (ht : eval (.Call (.Attribute o m apos) (e :: es) [] pos) X.env = (do
      let ov ← eval o X.env
      standAt apos.atName
      let (f, first) ← holding [ov] (getMethod ov m pl)
      callWith pos f first (backTo pos (starEach (e :: es) X.env)) (backToKw pos (keywordEach [] X.env))) := by rfl) : PE X (.Call (.Attribute o m apos) (e :: es) [] pos) (tMt C m r ta t) := by
  refine ⟨fun pins s σ H Q I h => PySem.W.methodCall_KW (pl := pl) (thn (he.run pins s σ H _ I h) fun u s1 ⟨x, H1, I1, rx, a, dx, fs, ex, ea, l, q⟩ => ?_) ht⟩
  subst ex
  obtain rfl : u = Value.ref a := rx
  exact getmeth_ok I1 ea c hm l (PySem.W.callWith_K (first := [.ref a]) (h₀ := X.base) I.ok.mod.kin hm.kp
    (thn (ha.run pos pins s1 σ H1 _ I1 q) fun us s2 ⟨vs, H2, I2, r2, q2⟩ => ⟨I2.kIn, cl pins s2 σ H2 (.ref a :: us) (.ref a :: vs) Q I2 (.cons rfl r2) q2⟩) hst hpl)
theorem pe_mt0 (he : PE X o ta) (c : Cls X.K C) (hm : Meth X.K C m f) (cl : CalR X (.ref f) r)
    (ht : eval (.Call (.Attribute o m apos) [] [] pos) X.env = (do
      let ov ← eval o X.env
      standAt apos.atName
      let (f, first) ← holding [ov] (getMethod ov m pl)
      callWith pos f first (backTo pos (starEach [] X.env)) (backToKw pos (keywordEach [] X.env))) := by rfl) : PE X (.Call (.Attribute o m apos) [] [] pos) (tMt C m r ta tNil) := by
  refine ⟨fun pins s σ H Q I h => PySem.W.methodCall_KW (pl := pl) (thn (he.run pins s σ H _ I h) fun u s1 ⟨x, H1, I1, rx, a, dx, fs, ex, ea, l, q⟩ => ?_) ht⟩
  subst ex
  obtain rfl : u = Value.ref a := rx
  exact getmeth_ok I1 ea c hm l (PySem.W.callWith_K0 (first := [.ref a]) I1.kIn hm.kp (cl pins s1 σ H1 [.ref a] [.ref a] Q I1 (.cons rfl .nil) q))
end

/-! ### the promise of a def: it runs as m says -/
def spM (K : PySem.W.Frag) (T : Ct) (n : Nat) (m : En → Out D) : Sp := fun vs H Q E => vs.length = n ∧ ∃ B F ρ, Wd K T B F H (vs.map some) ρ ∧ Post K T (fun c dd _ H' => E c dd H') B F (vs.map some) (Is K T) (m ρ) Q
/-- m on frozen values, at slots that stay -/
def onD (m : En → Out D) (ds : List D) (ρ : En) : Out D := match m (ds.map fun d => some (.im d)) with
  | .ok d _ => .ok d ρ
  | .ex x _ => .ex x ρ
  | .er => .er
section
variable {K : PySem.W.Frag} {T : Ct} {W : WX} {B B' F F' F2 H H' : Hp} {σ : L2.St} {ρ : En} {m : En → Out D}
theorem wd_args {vs : List V} {ds : List D} (w : Wd K T B F H σ ρ) (l : IsL K T F vs ds) : Wd K T H F H (vs.map some) (ds.map fun d => some (.im d)) := by
  refine ⟨Same.refl H, w.f, by simp [l.length], fun _ => [], fun i o e => ?_, fun i j a m => (by cases m), fun i a m => (by cases m)⟩
  rw [List.getElem?_map] at e
  cases ed : ds[i]? with
  | none => rw [ed] at e; cases e
  | some d =>
    rw [ed] at e
    cases e
    obtain ⟨v, ev, iv⟩ := l.get ed
    exact ⟨v, by rw [List.getElem?_map, ev]; rfl, .im iv⟩
/-- behind a call that kept all of the heap -/
theorem Wd.back {σ' : L2.St} {ρ' : En} (w : Wd K T B F H σ ρ) (g : Gw H F F') (w' : Wd K T H F' H' σ' ρ') : Gw B F F' ∧ Wd K T B F' H' σ ρ := by
  have g' : Gw B F F' := g.less w.b
  exact ⟨g', w.grow g' (w.b.trans w'.b) w'.f (fun a u e _ _ => w'.b a u e) g.n⟩
/-- .. a new object besides is nobody's -/
theorem Wd.backTo {σ' : L2.St} {ρ' : En} {x : Addr} {u : HO} (w : Wd K T B F H σ ρ) (g : Gw H F F') (w' : Wd K T H F' H' σ' ρ') (hx : H x = none) (bx : B x = none) (hu : H' x = some u) : Wd K T (upd B x u) F' H' σ ρ := by
  obtain ⟨φ, h1, h2, h3⟩ := w.o
  refine ⟨fun b o e => ?_, w'.f, w.l, φ, fun i o e => ?_, h2, fun i a m => ?_⟩
  · by_cases z : b = x
    · subst z; rw [upd_same] at e; cases e; exact hu
    · rw [upd_ne z] at e; exact w'.b _ _ (w.b _ _ e)
  · obtain ⟨v, e1, q⟩ := h1 i o e
    exact ⟨v, e1, q.mono g.s fun a _ u e => w'.b a u e⟩
  · obtain ⟨⟨o, e⟩, hf, hb⟩ := h3 i a m
    obtain ⟨v, _, q⟩ := h1 i o e
    obtain ⟨y, hy⟩ := q.there a m
    refine ⟨⟨o, e⟩, ?_, by rw [upd_ne (ne_of_none hy hx)]; exact hb⟩
    cases z : F' a with
    | none => rfl
    | some p =>
      rcases g.n a p z with z | z
      · rw [hf] at z; cases z
      · rw [hy] at z; cases z
theorem onD_post {vs : List V} {ds : List D} {Q : VK} {n : Nat} (w : Wd K T B F H σ ρ) (l : IsL K T F vs ds) (hn : ds.length = n) (q : Post K T W B F σ (Is K T) (onD m ds ρ) Q) : spM K T n m vs H Q (fun c dd H' => W c dd σ H') := by
  refine ⟨by rw [l.length, hn], H, F, _, wd_args w l, ?_⟩
  unfold onD at q
  revert q
  cases m (ds.map fun d => some (.im d)) with
  | ok d ρa =>
    intro q F' H' v g w' i
    obtain ⟨g2, w2⟩ := w.back g w'
    exact q F' H' v g2 w2 i
  | ex x ρa =>
    intro q F' H' c dd g w' e
    obtain ⟨g2, w2⟩ := w.back g w'
    exact q F' H' c dd g2 w2 e
  | er => exact id
/-- a fresh instance and its fields -/
def onMk (c nf : Nat) (m : En → Out D) (ds : List D) (ρ : En) : Out D := match m (some (.oi c []) :: ds.map fun d => some (.im d)) with
  | .ok .non (some (.oi c' fs) :: _) => if decide (c' = c ∧ fs.length = nf) then .ok (.ins c fs) ρ else .er
  | .ex x _ => .ex x ρ
  | _ => .er
theorem onMk_post {vs : List V} {ds : List D} {Q : VK} {n c nf : Nat} {x dx : Addr} (w : Wd K T B F H σ ρ) (l : IsL K T F vs ds) (hn : ds.length + 1 = n) (hf : (T.fl c).length = nf) (hx : H x = none) (hdx : H dx = none) (ne : dx ≠ x) (q : Post K T W B F σ (Is K T) (onMk c nf m ds ρ) Q) :
    spM K T n m (.ref x :: vs) (upd (upd H dx (.own x)) x (.ins (T.cl c) dx [])) (fun v H2 => v = .non ∧ Q (.ref x) H2) (fun c dd H' => W c dd σ H') := by
  -- the heap with the instance
  generalize hH1 : upd H dx (.own x) = H1
  have hx1 : H1 x = none := by rw [← hH1, upd_ne (Ne.symm ne)]; exact hx
  have s01 : Same H H1 := by rw [← hH1]; exact same_upd hdx
  have w1 : Wd K T B F H1 σ ρ := by rw [← hH1]; exact w.loose hdx
  obtain ⟨fx, bx⟩ := w1.nofree hx1
  have s12 : Same H1 (upd H1 x (.ins (T.cl c) dx [])) := same_upd hx1
  have wa : Wd K T H1 F (upd H1 x (.ins (T.cl c) dx [])) ((V.ref x :: vs).map some) (some (.oi c []) :: ds.map fun d => some (.im d)) := by
    have wl := wd_args w1 l
    refine ⟨s12, w1.f.trans s12, by simp [l.length], fset (fun _ => []) 0 [x], fun i o e => ?_, fun i j a m1 m2 => ?_, fun i a m1 => ?_⟩
    · cases i with
      | zero =>
        simp at e
        subst e
        exact ⟨.ref x, rfl, by rw [fset_same]; exact .oi (fs := []) upd_same (by simp) .nil⟩
      | succ i =>
        rw [fset_ne (Nat.succ_ne_zero i)]
        have e2 : (ds.map fun d => some (O.im d))[i]? = some (some o) := by simpa using e
        rw [List.getElem?_map] at e2
        cases ed : ds[i]? with
        | none => rw [ed] at e2; cases e2
        | some d =>
          rw [ed] at e2
          cases e2
          obtain ⟨v, ev, iv⟩ := l.get ed
          exact ⟨v, by simp [ev], .im iv⟩
    · by_cases z : i = 0
      · by_cases y : j = 0
        · rw [z, y]
        · rw [fset_ne y] at m2; cases m2
      · rw [fset_ne z] at m1; cases m1
    · by_cases z : i = 0
      · subst z
        rw [fset_same] at m1
        simp at m1
        subst m1
        exact ⟨⟨.oi c [], rfl⟩, fx, hx1⟩
      · rw [fset_ne z] at m1; cases m1
  refine ⟨by simp [l.length]; exact hn, H1, F, _, wa, ?_⟩
  unfold onMk at q
  revert q
  have exc : ∀ {ρa : En} {y : Xn}, Post K T W B F σ (Is K T) (.ex y ρ : Out D) Q → ∀ F' H' c' dd, Gw H1 F F' → Wd K T H1 F' H' ((V.ref x :: vs).map some) ρa → ExIs K T F' H' c' dd y → W c' dd σ H' := by
    intro ρa y q F' H' c' dd g w' e
    obtain ⟨g2, w2⟩ := w1.back g w'
    exact q F' H' c' dd g2 w2 e
  cases m (some (.oi c []) :: ds.map fun d => some (.im d)) with
  | ok d ρa =>
    cases d with
    | non =>
      cases ρa with
      | nil => exact fun q => q.elim
      | cons o r =>
        cases o with
        | none => exact fun q => q.elim
        | some o =>
          cases o with
          | oi c' fs =>
            intro q F' H' v g w' i
            have q : Post K T W B F σ (Is K T) (if decide (c' = c ∧ fs.length = nf) then .ok (.ins c fs) ρ else .er) Q := q
            split at q
            · rename_i hz
              obtain ⟨rfl, hl⟩ := of_decide_eq_true hz
              refine ⟨i.nonI, ?_⟩
              obtain ⟨g2, w2⟩ := w1.back g w'
              obtain ⟨v', fp, ev, ow, hfp⟩ := w'.own (i := 0) (o := .oi c' fs) rfl
              simp at ev
              subst ev
              obtain ⟨a, dy, gs, ea, efp, ha, hn', lf⟩ := ow.oiI
              cases ea
              have hxf := hfp x (by rw [efp]; simp)
              -- the instance is frozen
              have bx' : B x = none := bx
              obtain ⟨g3, w3⟩ := Wd.ice bx' (w1.backTo g w' hx1 bx' ha)
              exact q _ H' _ (g2.trans g3) w3 (.ins upd_same (by rw [hn', List.take_of_length_le (by omega)]) (lf.mono g3.s))
            · exact q.elim
          | _ => exact fun q => q.elim
    | _ => exact fun q => q.elim
  | ex y ρa => exact exc
  | er => exact id
end
end Ce
namespace Ce
open PySem PySem.Spec PyProof.Rows L2 Ce

/-! ### callables of the program -/
/-- the callable u runs on frozen values as m says -/
structure KF (X : Cx) (T : Ct) (W : WX) (u : Value) (m : List D → En → Out D) : Prop where
  ex : ∃ r : R3, CalR X u r ∧ ∀ (B F H : Hp) (σ : L2.St) (ρ : En) (Q : VK) vs ds, Wd X.K T B F H σ ρ → IsL X.K T F vs ds → Post X.K T W B F σ (Is X.K T) (m ds ρ) Q → r σ vs H Q
/-- n parameters, the last ones by default dd -/
def fnM (n : Nat) (dd : List D) (m : En → Out D) (ds : List D) (ρ : En) : Out D := if decide (ds.length + dd.length = n) then onD m (ds ++ dd) ρ else .er
def mkM (c nf n : Nat) (dd : List D) (m : En → Out D) (ds : List D) (ρ : En) : Out D := if decide (ds.length + dd.length + 1 = n) then onMk c nf m (ds ++ dd) ρ else .er
section
variable {X : Cx} {T : Ct} {W : WX} {k n : Nat} {f g p : Addr} {fd : FuncData} {ps : List Str} {m : En → Out D} {dvs : List V} {us : List Value} {dd : List D}
/-- a def of the program at X's program -/
abbrev FnM (X : Cx) (T : Ct) (k : Nat) (f : Addr) (fd : FuncData) (ps : List Str) (m : En → Out D) : Prop := FnOk X.prog X.w X.K X.mg X.base (L2.CX X.prog X.w) k f fd ps (spM X.K T ps.length m)
/-- the defaults of it, as values that need no heap -/
structure Dfl (K : PySem.W.Frag) (T : Ct) (fd : FuncData) (ps : List Str) (dd : List D) : Prop where
  ex : ∃ us dvs, Binds K fd ps us ∧ Vals dvs us ∧ ∀ F, IsL K T F dvs dd
theorem kf_fn (F : FnM X T k f fd ps m) (hr : Room k X.A) (hb : Dfl X.K T fd ps dd) (tk : Takes X W) (hn : ps.length = n := by rfl) : KF X T W (.ref f) (fnM n dd m) := by
  subst hn
  obtain ⟨us, dvs, b, v, id⟩ := hb
  refine ⟨_, cal_fn F hr b v (E := WE W) fun σ => passAt tk σ, fun B F0 H σ ρ Q vs ds w l q => ?_⟩
  unfold fnM at q
  split at q
  · rename_i h
    exact onD_post w (l.append (id F0)) (by simpa using of_decide_eq_true h) q
  · exact q.elim
theorem kf_mk {c nf : Nat} (M : Mk X.K (T.cl c) f) (F : FnM X T k f fd ps m) (hr : Room (k + 1) X.A) (hb : Dfl X.K T fd ps dd) (tk : Takes X W) (hf : (T.fl c).length = nf := by rfl) (hn : ps.length = n := by rfl) : KF X T W (.ref (T.cl c)) (mkM c nf n dd m) := by
  subst hn hf
  obtain ⟨us, dvs, b, v, id⟩ := hb
  refine ⟨_, cal_make M F hr b v (E := WE W) fun σ => passAt tk σ, fun B F0 H σ ρ Q vs ds w l q x dx hx hdx ne => ?_⟩
  unfold mkM at q
  split at q
  · rename_i h
    exact onMk_post w (l.append (id F0)) (by simpa using of_decide_eq_true h) rfl hx hdx ne q
  · exact q.elim
theorem KF.or {u : Value} {m m' : List D → En → Out D} (h : KF X T W u m) (e : m = m') : KF X T W u m' := e ▸ h
end

section
variable {X : Cx} {T : Ct} {W : WX} {m : List D → En → Out D} {fo : En → Out D} {x a : Str} {u : Value} {p pos apos : Pos} {e o : Expr} {es : List Expr} {g : En → Out (List D)}
/-- x(e, ..) -/
theorem pf_call (k : KF X T W u m) (hg : Gl X x) (hm : X.mg x = some u) (hk : PySem.W.keepIn X.K u = true) (ha : AF X T W (e :: es) g) (hdb : (x == ("__debug__" : Str)) = false := by decide)
    (he : starEach (e :: es) X.env = (false, eval e X.env) :: starEach es X.env := by rfl) (hpl : (backTo pos (starEach es X.env)).any (·.1) = false := by rfl) : PF X T W (.Call (.Name x p) (e :: es) [] pos) (cl1 m g) := by
  obtain ⟨r, c, hp⟩ := k
  obtain ⟨t, ht, hq⟩ := ha
  exact ⟨_, pe_nm c hg hm hk ht hdb he hpl, fun B F H σ ρ Q w q => hq B F H σ ρ _ w (Post.step q fun ds ρ1 F1 H1 vs g1 w1 l1 q1 => hp B F1 H1 σ ρ1 Q vs ds w1 l1 q1)⟩
theorem pf_call0 (k : KF X T W u m) (hg : Gl X x) (hm : X.mg x = some u) (hk : PySem.W.keepIn X.K u = true) (hdb : (x == ("__debug__" : Str)) = false := by decide) : PF X T W (.Call (.Name x p) [] [] pos) (cl1 m aN) := by
  obtain ⟨r, c, hp⟩ := k
  exact ⟨_, pe_nm0 c hg hm hk hdb, fun B F H σ ρ Q w q => hp B F H σ ρ Q [] [] w .nil q⟩
/-- o.a(e, ..), o an instance of the class c -/
def mt (c : Nat) (m : List D → En → Out D) (fo : En → Out D) (g : En → Out (List D)) : En → Out D := fun ρ => (fo ρ).bind fun d ρ => match d with
  | .ins c' ds => if decide (c' = c) then (g ρ).bind fun es ρ => m (.ins c' ds :: es) ρ else .er
  | _ => .er
theorem lookup_no {f : Str} : ∀ {fs : List (Str × V)}, (fs.map (·.1)).contains f = false → fs.lookup f = none
  | [], _ => rfl
  | (g, u) :: r, h => by
    simp only [List.map_cons, List.contains_cons, Bool.or_eq_false_iff] at h
    show (match f == g with | true => some u | false => r.lookup f) = none
    rw [h.1]
    exact lookup_no (fs := r) h.2
/-- the class c has the method a at f -/
structure MtOk (K : PySem.W.Frag) (T : Ct) (c : Nat) (a : Str) (f : Addr) : Prop where
  cls : Cls K (T.cl c)
  mth : Meth K (T.cl c) a f
  no : (T.fl c).contains a = false
variable {c : Nat} {f : Addr} {pl : Sem Bool}
theorem pf_mt (k : MtOk X.K T c a f) (kf : KF X T W (.ref f) m) (ho : PF X T W o fo) (ha : AF X T W (e :: es) g)
    (hst : starEach (e :: es) X.env = (false, eval e X.env) :: starEach es X.env := by rfl) (hpl : (backTo pos (starEach es X.env)).any (·.1) = false := by rfl)
    (ht : eval (.Call (.Attribute o a apos) (e :: es) [] pos) X.env = (do
      let ov ← eval o X.env
      standAt apos.atName
      let (f, first) ← holding [ov] (getMethod ov a pl)
      callWith pos f first (backTo pos (starEach (e :: es) X.env)) (backToKw pos (keywordEach [] X.env))) := by rfl) : PF X T W (.Call (.Attribute o a apos) (e :: es) [] pos) (mt c m fo g) := by
  obtain ⟨r, cr, hp⟩ := kf
  obtain ⟨to, hto, hpo⟩ := ho
  obtain ⟨t, hta, hq⟩ := ha
  refine ⟨_, pe_mt hto k.cls k.mth cr hta hst hpl ht, fun B F H σ ρ Q w q => hpo B F H σ ρ _ w (Post.step q fun d ρ1 F1 H1 v g1 w1 i1 q1 => ?_)⟩
  cases d with
  | ins c' ds =>
    dsimp only at q1
    split at q1
    · rename_i hc
      obtain rfl := of_decide_eq_true hc
      obtain ⟨y, dx, fs, rfl, hy, hn, l⟩ := id i1.insI
      refine ⟨y, dx, fs, rfl, w1.f _ _ hy, lookup_no (by rw [hn]; exact k.no), hq B F1 H1 σ ρ1 _ w1 (Post.step q1 fun es' ρ2 F2 H2 vs g2 w2 l2 q2 => ?_)⟩
      exact hp B F2 H2 σ ρ2 Q _ _ w2 (.cons (i1.mono g2.s) l2) q2
    · exact q1.elim
  | _ => exact q1.elim
theorem pf_mt0 (k : MtOk X.K T c a f) (kf : KF X T W (.ref f) m) (ho : PF X T W o fo)
    (ht : eval (.Call (.Attribute o a apos) [] [] pos) X.env = (do
      let ov ← eval o X.env
      standAt apos.atName
      let (f, first) ← holding [ov] (getMethod ov a pl)
      callWith pos f first (backTo pos (starEach [] X.env)) (backToKw pos (keywordEach [] X.env))) := by rfl) : PF X T W (.Call (.Attribute o a apos) [] [] pos) (mt c m fo aN) := by
  obtain ⟨r, cr, hp⟩ := kf
  obtain ⟨to, hto, hpo⟩ := ho
  refine ⟨_, pe_mt0 hto k.cls k.mth cr ht, fun B F H σ ρ Q w q => hpo B F H σ ρ _ w (Post.step q fun d ρ1 F1 H1 v g1 w1 i1 q1 => ?_)⟩
  cases d with
  | ins c' ds =>
    dsimp only at q1
    split at q1
    · rename_i hc
      obtain rfl := of_decide_eq_true hc
      obtain ⟨y, dx, fs, rfl, hy, hn, l⟩ := id i1.insI
      refine ⟨y, dx, fs, rfl, w1.f _ _ hy, lookup_no (by rw [hn]; exact k.no), ?_⟩
      exact hp B F1 H1 σ ρ1 Q _ _ w1 (.cons i1 .nil) q1
    · exact q1.elim
  | _ => exact q1.elim
end

/-! ### properties -/
/-- m on frozen values where nothing may be raised -/
def onV (m : En → Out D) (ds : List D) (ρ : En) : Out D := match m (ds.map fun d => some (.im d)) with
  | .ok d _ => .ok d ρ
  | _ => .er
abbrev noE : XK := fun _ _ _ => False
theorem onV_post {K : PySem.W.Frag} {T : Ct} {W : WX} {B F H : Hp} {σ : L2.St} {ρ : En} {m : En → Out D} {vs : List V} {ds : List D} {Q : VK} {n : Nat} (w : Wd K T B F H σ ρ) (l : IsL K T F vs ds) (hn : ds.length = n) (q : Post K T W B F σ (Is K T) (onV m ds ρ) Q) : spM K T n m vs H Q noE := by
  refine onD_post (W := fun _ _ _ _ => False) w l hn ?_
  unfold onV at q
  unfold onD
  revert q
  cases m (ds.map fun d => some (.im d)) with
  | ok d ρa => exact id
  | ex x ρa => exact fun q => q.elim
  | er => exact fun q => q.elim
theorem passesNo {X Y : Cx} : Passes (L2.CX X.prog X.w) Y noE := fun _ _ _ _ _ _ _ c => by
  obtain ⟨_, _, _, _, _, _, _, _, _, _, _, _, z⟩ := c
  exact z.elim
structure PrOk (K : PySem.W.Frag) (T : Ct) (c : Nat) (a : Str) (p g : Addr) : Prop where
  cls : Cls K (T.cl c)
  prp : PropOf K (T.cl c) a p g
def prp (c : Nat) (m : En → Out D) (fo : En → Out D) : En → Out D := fun ρ => (fo ρ).bind fun d ρ => match d with
  | .ins c' ds => if decide (c' = c) then onV m [.ins c' ds] ρ else .er
  | _ => .er
section
variable {X : Cx} {T : Ct} {W : WX} {k c : Nat} {fo m : En → Out D} {a : Str} {pos : Pos} {o : Expr} {p g : Addr} {fd : FuncData} {ps : List Str}
theorem pf_prp (h : PrOk X.K T c a p g) (F : FnM X T k g fd ps m) (hps : ps.length = 1) (hr : Room (k + 1) X.A) (hb : Dfl X.K T fd ps []) (ho : PF X T W o fo) (hab : attributeBase o a X.env (eval o X.env) = eval o X.env := by rfl) :
    PF X T W (.Attribute o a pos) (prp c m fo) := by
  obtain ⟨to, hto, hpo⟩ := ho
  obtain ⟨us, dvs, b, v, hd⟩ := hb
  have e0 : dvs = [] := by
    have z := hd fun _ => none
    cases z
    rfl
  subst e0
  refine ⟨_, pe_prop hto h.cls h.prp F hr b v passesNo hab, fun B F0 H σ ρ Q w q => hpo B F0 H σ ρ _ w (Post.step q fun d ρ1 F1 H1 v g1 w1 i1 q1 => ?_)⟩
  cases d with
  | ins c' ds =>
    dsimp only at q1
    split at q1
    · rename_i hc
      obtain rfl := of_decide_eq_true hc
      obtain ⟨y, dx, fs, rfl, hy, hn, l⟩ := id i1.insI
      exact ⟨y, dx, fs, rfl, w1.f _ _ hy, onV_post w1 (.cons i1 .nil) (by rw [hps]; rfl) q1⟩
    · exact q1.elim
  | _ => exact q1.elim
end
end Ce
namespace Ce
open PySem PySem.Spec PyProof.Rows L2 Ce

/-! ### a callee somewhere below the body, where nothing may be raised -/
section
variable {X : Cx} {T : Ct} {W : WX} {k n : Nat} {f g p : Addr} {fd : FuncData} {ps : List Str} {m : En → Out D} {pins : List (Addr × Obj)} {σ : L2.St} {H : Hp} {s : Shared} {A : Around} {Er : Value → Shared → Prop}
theorem Dfl.none (b : Dfl X.K T fd ps []) : Binds X.K fd ps [] := by
  obtain ⟨us, dvs, b, v, hd⟩ := b
  have e0 : dvs = [] := by
    have z := hd fun _ => Option.none
    cases z
    rfl
  subst e0
  cases v
  exact b
theorem run_sub {Q : VK} {us : List Value} {vs : List V} (F : FnM X T k f fd ps m) (sb : Sub X k A) (b : Dfl X.K T fd ps []) (I : Inv X pins σ H s) (r : Vals vs us) (h : spM X.K T ps.length m vs H Q noE) :
    wpAny (model X.prog X.w) A (call (.ref f) us) (EP X pins σ Q) Er s := by
  have bb := b.none
  have e0 : Env0 X.prog X.w X.K X.mg X.base A X.stack s H := by
    have z := I.env0
    exact ⟨by rw [sb.fr]; exact z.frames, z.mod, z.bs, z.bsz, z.funs, z.frf, z.hok, z.bare⟩
  have hl := F.len _ _ _ _ h
  have bt := bb s us I.kIn (by rw [List.append_nil, ← r.length]; exact hl)
  rw [List.append_nil] at bt
  refine wpAny_call (codeAny_mono (F.run A X.stack s H ⟨us, []⟩ us vs Q noE sb.room e0 bt r h) fun r s' hq => ?_)
  cases r with
  | error e =>
    obtain ⟨_, _, _, _, _, _, _, _, _, _, _, _, z⟩ := hq
    exact z.elim
  | ok fl =>
    cases fl with
    | ret w => exact I.after hq
    | next => exact hq.elim
    | brk => exact hq.elim
    | cont => exact hq.elim
end

/-! ### growth without slots -/
structure Nx (H F H' F' : Hp) : Prop where
  h : Same H H'
  f : Same F' H'
  g : Gw H F F'
theorem Nx.trans {H F H1 F1 H2 F2 : Hp} (a : Nx H F H1 F1) (b : Nx H1 F1 H2 F2) : Nx H F H2 F2 := ⟨a.h.trans b.h, b.f, a.g.trans (b.g.less a.h)⟩
theorem Wd.nx {K : PySem.W.Frag} {T : Ct} {B F H F' H' : Hp} {σ : L2.St} {ρ : En} (w : Wd K T B F H σ ρ) (n : Nx H F H' F') : Gw B F F' ∧ Wd K T B F' H' σ ρ := by
  have g' : Gw B F F' := n.g.less w.b
  exact ⟨g', w.grow g' (w.b.trans n.h) n.f (fun a u e _ _ => n.h a u e) n.g.n⟩

/-! ### the same object says the same -/
structure Ct.Inj (T : Ct) : Prop where
  cl : ∀ c c', T.cl c = T.cl c' → c = c'
theorem relV_uniq {x y : V} {u : Value} (h : L2.RelV x u) (h' : L2.RelV y u) : x = y := by
  cases x <;> cases y <;> simp only [L2.RelV] at h h' <;> grind
theorem vals_uniq : ∀ {xs ys : List V} {us : List Value}, Vals xs us → Vals ys us → xs = ys
  | [], [], _, _, _ => rfl
  | [], _ :: _, _, .nil, h => nomatch h
  | _ :: _, [], _, h, .nil => nomatch h
  | _ :: _, _ :: _, _, .cons r t, .cons r' t' => by rw [relV_uniq r r', vals_uniq t t']
def tidy (K : PySem.W.Frag) (F : Hp) : Prop := ∀ a o, K.lookup a = some o → F a = none
section
variable {K : PySem.W.Frag} {T : Ct} {F : Hp} {a : Addr} {xs ys : List V}
theorem sqL_uniq (t : tidy K F) (h : SqL K F a xs) (h' : SqL K F a ys) : xs = ys := by
  rcases h with (h | ⟨o, h⟩) | ⟨o, its, n, e1, _, _, e4, _, v⟩ <;> rcases h' with (h' | ⟨o', h'⟩) | ⟨o', its', n', e1', _, _, e4', _, v'⟩ <;> grind [tidy, vals_uniq]
theorem sqT_uniq (t : tidy K F) (h : SqT K F a xs) (h' : SqT K F a ys) : xs = ys := by
  rcases h with (h | ⟨o, h⟩) | ⟨o, its, n, e1, _, e4, _, v⟩ <;> rcases h' with (h' | ⟨o', h'⟩) | ⟨o', its', n', e1', _, e4', _, v'⟩ <;> grind [tidy, vals_uniq]
theorem sqLT (t : tidy K F) (h : SqL K F a xs) (h' : SqT K F a ys) : False := by
  rcases h with (h | ⟨o, h⟩) | ⟨o, its, n, e1, c1, _, e4, _, v⟩ <;> rcases h' with (h' | ⟨o', h'⟩) | ⟨o', its', n', e1', c1', e4', _, v'⟩ <;> grind [tidy]
theorem sqL_ins {u : HO} {C dx : Addr} {fs : List (Str × V)} (t : tidy K F) (h : SqL K F a xs) (h' : F a = some (.ins C dx fs)) : False := by
  rcases h with (h | ⟨o, h⟩) | ⟨o, its, n, e1, c1, _, e4, _, v⟩ <;> grind [tidy]
theorem sqT_ins {u : HO} {C dx : Addr} {fs : List (Str × V)} (t : tidy K F) (h : SqT K F a xs) (h' : F a = some (.ins C dx fs)) : False := by
  rcases h with (h | ⟨o, h⟩) | ⟨o, its, n, e1, c1, e4, _, v⟩ <;> grind [tidy]
mutual
theorem Is.uniq (t : tidy K F) (hT : T.Inj) : ∀ {v : V} {d d' : D}, Is K T F v d → Is K T F v d' → d = d'
  | _, _, _, .non, h => by cases h <;> first | rfl | simp_all [raws]
  | _, _, _, .bl b, h => by cases h <;> first | rfl | simp_all [raws]
  | _, _, _, .int i, h => by cases h <;> first | rfl | simp_all [raws]
  | _, _, _, .str s, h => by cases h <;> first | rfl | simp_all [raws]
  | _, _, _, .raw v hv, h => by cases h <;> first | rfl | simp_all [raws]
  | _, _, _, .lst h1 l1, h => by
    cases h with
    | lst h2 l2 =>
      cases sqL_uniq t h1 h2
      rw [IsL.uniq t hT l1 l2]
    | tup h2 l2 => exact (sqLT t h1 h2).elim
    | ins h2 n2 l2 => exact (sqL_ins (u := .tup []) t h1 h2).elim
    | raw v hv => simp_all [raws]
  | _, _, _, .tup h1 l1, h => by
    cases h with
    | lst h2 l2 => exact (sqLT t h2 h1).elim
    | tup h2 l2 =>
      cases sqT_uniq t h1 h2
      rw [IsL.uniq t hT l1 l2]
    | ins h2 n2 l2 => exact (sqT_ins (u := .tup []) t h1 h2).elim
    | raw v hv => simp_all [raws]
  | _, _, _, .ins h1 n1 l1, h => by
    cases h with
    | lst h2 l2 => exact (sqL_ins (u := .tup []) t h2 h1).elim
    | tup h2 l2 => exact (sqT_ins (u := .tup []) t h2 h1).elim
    | ins h2 n2 l2 =>
      have e := h1.symm.trans h2
      simp only [Option.some.injEq, HO.ins.injEq] at e
      obtain ⟨ec, _, ef⟩ := e
      subst ef
      rw [hT.cl _ _ ec, IsL.uniq t hT l1 l2]
    | raw v hv => simp_all [raws]
theorem IsL.uniq (t : tidy K F) (hT : T.Inj) : ∀ {vs : List V} {ds ds' : List D}, IsL K T F vs ds → IsL K T F vs ds' → ds = ds'
  | _, _, _, .nil, .nil => rfl
  | _, _, _, .cons h l, .cons h' l' => by rw [Is.uniq t hT h h', IsL.uniq t hT l l']
end
end
theorem inv_tidy {X : Cx} {pins : List (Addr × Obj)} {σ : L2.St} {H F : Hp} {s : Shared} (I : Inv X pins σ H s) (f : Same F H) : tidy X.K F := fun a o h => f.free (I.bs a o (I.ok.mod.kin a o h)).2
end Ce
namespace Ce.SeqTwo
open PySem PySem.SeqAt AutoSeq1 MeetsSeq MeetsSeq2 MeetsSeq3 SeqRoads2

section
variable {prog : Program} {w : World} {A : Around} {R : Result → Shared → Prop} {E : Value → Shared → Prop} {s : Shared}
/-- the answer b is told by the pairs from i on (P i); the two lists are read anew at each turn -/
structure Pairs (prog : Program) (w : World) (A : Around) (E : Value → Shared → Prop) (l r : Addr) (n m : Nat) (I : Shared → Prop) (P : Nat → Prop) (b : Bool) : Prop where
  read : ∀ s, I s → ∃ (xs ys : Array Value) (k k2 : Nat) (d1 d2 : Option Addr) (s1 s2 : Array (Option Value)), s.heap.get? l = some { cls := .type "list", dict := d1, data := .seq xs k, slots := s1 } ∧ s.heap.get? r = some { cls := .type "list", dict := d2, data := .seq ys k2, slots := s2 } ∧ xs.size = n ∧ ys.size = m ∧
    ∀ i (h1 : i < xs.size) (h2 : i < ys.size), P i → wpAny (model prog w) A.in1 (eqBool xs[i] ys[i]) (fun r s' => I s' ∧ (r = true → P (i + 1)) ∧ (r = false → b = false)) E s
  fin : ∀ i, P i → ¬ (i < n ∧ i < m) → b = (n == m)

theorem list_eq_turns (l r : Addr) (n : Nat) (I : Shared → Prop) (P : Nat → Prop) (b : Bool) (p : Pairs prog w A (fun e s' => R (.error e) s') l r n n I P b)
    (fin : ∀ s, I s → R (.ok (.ret (.bool b))) s) (k : Nat) :
    ∀ i : Nat, n - i = k → P i → ∀ s, I s →
      wpAny (model prog w) A.in1 (Builtin.«list.__eq__.loop» ⟨[.ref l, .ref r, rawInt i, rawInt 2], []⟩) (GQ.FinOf prog w A R) (fun e s' => R (.error e) s') s := by
  induction k with
  | zero =>
    intro i hk hp s h
    obtain ⟨xs, ys, k1, k2, d1, d2, s1, s2, hl, hr, hx, hy, _⟩ := p.read s h
    have hb := p.fin i hp (by omega)
    have hR := fin s h
    obtain ⟨hp', g, d, tk, os⟩ := s
    wp_walk using wpAny_loadPart' hl, wpAny_loadPart' hr
    have e1 : xs[((i : Nat) : Int).toNat]? = none := by simp; omega
    have e2 : ys[((i : Nat) : Int).toNat]? = none := by simp; omega
    rw [e1, e2]
    wp_walk using wpAny_loadPart' hl, wpAny_loadPart' hr
    show R (.ok (.ret (.bool (xs.size == ys.size)))) _
    rw [hx, hy]
    rw [hb] at hR
    simpa using hR
  | succ k ih =>
    intro i hk hp s h
    obtain ⟨xs, ys, k1, k2, d1, d2, s1, s2, hl, hr, hx, hy, turn⟩ := p.read s h
    have l1 : i < xs.size := by omega
    have l2 : i < ys.size := by omega
    have ht := turn i l1 l2 hp
    obtain ⟨hp', g, d, tk, os⟩ := s
    wp_walk using wpAny_loadPart' hl, wpAny_loadPart' hr
    have e1 : xs[((i : Nat) : Int).toNat]? = some xs[i] := by simp [l1]
    have e2 : ys[((i : Nat) : Int).toNat]? = some ys[i] := by simp [l2]
    have e3 : ((i : Int) + 1) = ((i + 1 : Nat) : Int) := by omega
    rw [e1, e2]
    refine wpAny_bind (wpAny_mono ht (fun r' t2 h2 => ?_) fun _ _ x => x)
    obtain ⟨hi, ht', hf'⟩ := h2
    cases r' with
    | true =>
      have onw := ih (i + 1) (by omega) (ht' rfl) t2 hi
      obtain ⟨hp2, g2, dr2, tk2, os2⟩ := t2
      wp_walk
      rw [e3]
      exact ⟨plainId_quiet plain_eq_loop _, codeAny_builtin entry_eq_loop (by
        rw [Around.under_plainId plain_eq_loop _]
        exact onw)⟩
    | false =>
      have hb := hf' rfl
      have hR := fin t2 hi
      obtain ⟨ys1, ys2, q1, q2, d3, d4, s3, s4, hl2, hr2, hx2, hy2, _⟩ := p.read t2 hi
      have f1 : ys1[((i : Nat) : Int).toNat]? = some ys1[i] := by simp [show i < ys1.size by omega]
      have f2 : ys2[((i : Nat) : Int).toNat]? = some ys2[i] := by simp [show i < ys2.size by omega]
      obtain ⟨hp2, g2, dr2, tk2, os2⟩ := t2
      wp_walk using wpAny_loadPart' hl2, wpAny_loadPart' hr2
      rw [f1, f2]
      wp_walk
      rw [hb] at hR
      simpa using hR
theorem list_eq_body (l r : Addr) (n m : Nat) (I : Shared → Prop) (P : Nat → Prop) (b : Bool) (p : Pairs prog w A (fun e s' => R (.error e) s') l r n m I P b) (hnm : n = m)
    (fin : ∀ s, I s → R (.ok (.ret (.bool b))) s) (h0 : P 0) {s : Shared} (h : I s) :
    wpAny (model prog w) A.in1 (Builtin.«list.__eq__» ⟨[.ref l, .ref r], []⟩) (GQ.FinOf prog w A R) (fun e s' => R (.error e) s') s := by
  subst hnm
  obtain ⟨xs, ys, k1, k2, d1, d2, s1, s2, hl, hr, hx, hy, _⟩ := p.read s h
  have onw := list_eq_turns (A := A) (R := R) l r n I P b p fin _ 0 rfl h0 s h
  obtain ⟨hp, g, d, tk, os⟩ := s
  have f3 := AutoSeq1.sub_list_list
  have same : ¬ (xs.size != ys.size) = true := by simp [hx, hy]
  wp_walk using wpAny_loadPart' hl, wpAny_loadPart' hr
  exact ⟨plainId_quiet plain_eq_loop _, codeAny_builtin entry_eq_loop (by
    rw [Around.under_plainId plain_eq_loop _]
    exact onw)⟩
theorem tuple_eq_body (l r : Addr) (xs ys : Array Value) (k1 k2 : Nat) (d1 d2 : Option Addr) (s1 s2 : Array (Option Value)) (I : Shared → Prop) (P : Nat → Prop) (b : Bool)
    (turn : ∀ i (h1 : i < xs.size) (h2 : i < ys.size) s, P i → I s → wpAny (model prog w) A.in1 (eqBool xs[i] ys[i]) (fun r s' => I s' ∧ (r = true → P (i + 1)) ∧ (r = false → b = false)) (fun e s' => R (.error e) s') s)
    (last : ∀ i, P i → i ≤ xs.size → i ≤ ys.size → ¬ (i < xs.size ∧ i < ys.size) → b = (xs.size == ys.size)) (fin : ∀ s, I s → R (.ok (.ret (.bool b))) s) {s : Shared}
    (hl : s.heap.get? l = some { cls := .type "tuple", dict := d1, data := .seq xs k1, slots := s1 }) (hr : s.heap.get? r = some { cls := .type "tuple", dict := d2, data := .seq ys k2, slots := s2 }) (h0 : P 0) (h : I s) :
    wpAny (model prog w) A.in1 (Builtin.«tuple.__eq__» ⟨[.ref l, .ref r], []⟩) (GQ.FinOf prog w A R) (fun e s' => R (.error e) s') s := by
  have f2 := AutoSeq1.sub_tuple_tuple
  have hZ : (xs.toList.zip ys.toList).length = min xs.size ys.size := by simp
  have hI := h
  obtain ⟨hp, g, d, tk, os⟩ := s
  wp_walk using wpAny_loadPart' hl, wpAny_loadPart' hr, wpAny_forIn_list _ (fun rest c s' => c.1 = none ∧ ∃ i, rest = (xs.toList.zip ys.toList).drop i ∧ i ≤ min xs.size ys.size ∧ P i ∧ I s') _
  case turn =>
    rintro ⟨y, x⟩ rest c s' ⟨hb', i, hz, hi, hP, hI'⟩
    have hlt : i < (xs.toList.zip ys.toList).length := by
      rcases Nat.lt_or_ge i (xs.toList.zip ys.toList).length with h' | h'
      · exact h'
      · rw [List.drop_of_length_le h'] at hz; cases hz
    have h1 : i < xs.size := by omega
    have h2 : i < ys.size := by omega
    rw [List.drop_eq_getElem_cons hlt] at hz
    injection hz with hyx hrest
    have ey : y = xs[i] := by have := congrArg Prod.fst hyx; simpa using this
    have ex : x = ys[i] := by have := congrArg Prod.snd hyx; simpa using this
    subst ey ex
    refine wpAny_bind (wpAny_mono (turn i h1 h2 s' hP hI') (fun r' s3 q3 => ?_) fun _ _ x => x)
    obtain ⟨q1, q2, q3⟩ := q3
    cases r' with
    | true =>
      wp_walk
      exact ⟨rfl, i + 1, hrest, by omega, q2 rfl, q1⟩
    | false =>
      have hR := fin s3 q1
      rw [q3 rfl] at hR
      wp_walk
      simpa using hR
  case fin =>
    rintro ⟨b1, b2⟩ s' ⟨hb', i, hz, hi, hP, hI'⟩
    simp only at hb'
    subst hb'
    have hge : (xs.toList.zip ys.toList).length ≤ i := by
      rcases Nat.lt_or_ge i (xs.toList.zip ys.toList).length with h' | h'
      · rw [List.drop_eq_getElem_cons h'] at hz; cases hz
      · exact h'
    have hR := fin s' hI'
    rw [last i hP (by omega) (by omega) (by omega)] at hR
    wp_walk
    simpa [Builtin.Tuple.tupleCompareSizes, bne] using hR
  case h =>
    exact ⟨rfl, 0, rfl, Nat.zero_le _, h0, hI⟩

theorem list_ne_turns (l r : Addr) (n : Nat) (I : Shared → Prop) (P : Nat → Prop) (b : Bool) (p : Pairs prog w A (fun e s' => R (.error e) s') l r n n I P b)
    (fin : ∀ s, I s → R (.ok (.ret (.bool (!b)))) s) (k : Nat) :
    ∀ i : Nat, n - i = k → P i → ∀ s, I s →
      wpAny (model prog w) A.in1 (Builtin.«list.__eq__.loop» ⟨[.ref l, .ref r, rawInt i, rawInt 3], []⟩) (GQ.FinOf prog w A R) (fun e s' => R (.error e) s') s := by
  induction k with
  | zero =>
    intro i hk hp s h
    obtain ⟨xs, ys, k1, k2, d1, d2, s1, s2, hl, hr, hx, hy, _⟩ := p.read s h
    have hb := p.fin i hp (by omega)
    have hR := fin s h
    obtain ⟨hp', g, d, tk, os⟩ := s
    wp_walk using wpAny_loadPart' hl, wpAny_loadPart' hr
    have e1 : xs[((i : Nat) : Int).toNat]? = none := by simp; omega
    have e2 : ys[((i : Nat) : Int).toNat]? = none := by simp; omega
    rw [e1, e2]
    wp_walk using wpAny_loadPart' hl, wpAny_loadPart' hr
    show R (.ok (.ret (.bool (xs.size != ys.size)))) _
    rw [hx, hy]
    rw [hb] at hR
    simpa using hR
  | succ k ih =>
    intro i hk hp s h
    obtain ⟨xs, ys, k1, k2, d1, d2, s1, s2, hl, hr, hx, hy, turn⟩ := p.read s h
    have l1 : i < xs.size := by omega
    have l2 : i < ys.size := by omega
    have ht := turn i l1 l2 hp
    obtain ⟨hp', g, d, tk, os⟩ := s
    wp_walk using wpAny_loadPart' hl, wpAny_loadPart' hr
    have e1 : xs[((i : Nat) : Int).toNat]? = some xs[i] := by simp [l1]
    have e2 : ys[((i : Nat) : Int).toNat]? = some ys[i] := by simp [l2]
    have e3 : ((i : Int) + 1) = ((i + 1 : Nat) : Int) := by omega
    rw [e1, e2]
    refine wpAny_bind (wpAny_mono ht (fun r' t2 h2 => ?_) fun _ _ x => x)
    obtain ⟨hi, ht', hf'⟩ := h2
    cases r' with
    | true =>
      have onw := ih (i + 1) (by omega) (ht' rfl) t2 hi
      obtain ⟨hp2, g2, dr2, tk2, os2⟩ := t2
      wp_walk
      rw [e3]
      exact ⟨plainId_quiet plain_eq_loop _, codeAny_builtin entry_eq_loop (by
        rw [Around.under_plainId plain_eq_loop _]
        exact onw)⟩
    | false =>
      have hb := hf' rfl
      have hR := fin t2 hi
      obtain ⟨ys1, ys2, q1, q2, d3, d4, s3, s4, hl2, hr2, hx2, hy2, _⟩ := p.read t2 hi
      have f1 : ys1[((i : Nat) : Int).toNat]? = some ys1[i] := by simp [show i < ys1.size by omega]
      have f2 : ys2[((i : Nat) : Int).toNat]? = some ys2[i] := by simp [show i < ys2.size by omega]
      obtain ⟨hp2, g2, dr2, tk2, os2⟩ := t2
      wp_walk using wpAny_loadPart' hl2, wpAny_loadPart' hr2
      rw [f1, f2]
      wp_walk
      rw [hb] at hR
      simpa using hR
theorem list_ne_body (l r : Addr) (n m : Nat) (I : Shared → Prop) (P : Nat → Prop) (b : Bool) (p : Pairs prog w A (fun e s' => R (.error e) s') l r n m I P b) (hnm : n = m)
    (fin : ∀ s, I s → R (.ok (.ret (.bool (!b)))) s) (h0 : P 0) {s : Shared} (h : I s) :
    wpAny (model prog w) A.in1 (Builtin.«list.__ne__» ⟨[.ref l, .ref r], []⟩) (GQ.FinOf prog w A R) (fun e s' => R (.error e) s') s := by
  subst hnm
  obtain ⟨xs, ys, k1, k2, d1, d2, s1, s2, hl, hr, hx, hy, _⟩ := p.read s h
  have onw := list_ne_turns (A := A) (R := R) l r n I P b p fin _ 0 rfl h0 s h
  obtain ⟨hp, g, d, tk, os⟩ := s
  have f3 := AutoSeq1.sub_list_list
  have same : ¬ (xs.size != ys.size) = true := by simp [hx, hy]
  wp_walk using wpAny_loadPart' hl, wpAny_loadPart' hr
  exact ⟨plainId_quiet plain_eq_loop _, codeAny_builtin entry_eq_loop (by
    rw [Around.under_plainId plain_eq_loop _]
    exact onw)⟩
theorem tuple_ne_body (l r : Addr) (xs ys : Array Value) (k1 k2 : Nat) (d1 d2 : Option Addr) (s1 s2 : Array (Option Value)) (I : Shared → Prop) (P : Nat → Prop) (b : Bool)
    (turn : ∀ i (h1 : i < xs.size) (h2 : i < ys.size) s, P i → I s → wpAny (model prog w) A.in1 (eqBool xs[i] ys[i]) (fun r s' => I s' ∧ (r = true → P (i + 1)) ∧ (r = false → b = false)) (fun e s' => R (.error e) s') s)
    (last : ∀ i, P i → i ≤ xs.size → i ≤ ys.size → ¬ (i < xs.size ∧ i < ys.size) → b = (xs.size == ys.size)) (fin : ∀ s, I s → R (.ok (.ret (.bool (!b)))) s) {s : Shared}
    (hl : s.heap.get? l = some { cls := .type "tuple", dict := d1, data := .seq xs k1, slots := s1 }) (hr : s.heap.get? r = some { cls := .type "tuple", dict := d2, data := .seq ys k2, slots := s2 }) (h0 : P 0) (h : I s) :
    wpAny (model prog w) A.in1 (Builtin.«tuple.__ne__» ⟨[.ref l, .ref r], []⟩) (GQ.FinOf prog w A R) (fun e s' => R (.error e) s') s := by
  have f2 := AutoSeq1.sub_tuple_tuple
  have hZ : (xs.toList.zip ys.toList).length = min xs.size ys.size := by simp
  have hI := h
  obtain ⟨hp, g, d, tk, os⟩ := s
  wp_walk using wpAny_loadPart' hl, wpAny_loadPart' hr, wpAny_forIn_list _ (fun rest c s' => c.1 = none ∧ ∃ i, rest = (xs.toList.zip ys.toList).drop i ∧ i ≤ min xs.size ys.size ∧ P i ∧ I s') _
  case turn =>
    rintro ⟨y, x⟩ rest c s' ⟨hb', i, hz, hi, hP, hI'⟩
    have hlt : i < (xs.toList.zip ys.toList).length := by
      rcases Nat.lt_or_ge i (xs.toList.zip ys.toList).length with h' | h'
      · exact h'
      · rw [List.drop_of_length_le h'] at hz; cases hz
    have h1 : i < xs.size := by omega
    have h2 : i < ys.size := by omega
    rw [List.drop_eq_getElem_cons hlt] at hz
    injection hz with hyx hrest
    have ey : y = xs[i] := by have := congrArg Prod.fst hyx; simpa using this
    have ex : x = ys[i] := by have := congrArg Prod.snd hyx; simpa using this
    subst ey ex
    refine wpAny_bind (wpAny_mono (turn i h1 h2 s' hP hI') (fun r' s3 q3 => ?_) fun _ _ x => x)
    obtain ⟨q1, q2, q3⟩ := q3
    cases r' with
    | true =>
      wp_walk
      exact ⟨rfl, i + 1, hrest, by omega, q2 rfl, q1⟩
    | false =>
      have hR := fin s3 q1
      rw [q3 rfl] at hR
      wp_walk
      simpa using hR
  case fin =>
    rintro ⟨b1, b2⟩ s' ⟨hb', i, hz, hi, hP, hI'⟩
    simp only at hb'
    subst hb'
    have hge : (xs.toList.zip ys.toList).length ≤ i := by
      rcases Nat.lt_or_ge i (xs.toList.zip ys.toList).length with h' | h'
      · rw [List.drop_eq_getElem_cons h'] at hz; cases hz
      · exact h'
    have hR := fin s' hI'
    rw [last i hP (by omega) (by omega) (by omega)] at hR
    wp_walk
    simpa [Builtin.Tuple.tupleCompareSizes, bne] using hR
  case h =>
    exact ⟨rfl, 0, rfl, Nat.zero_le _, h0, hI⟩

theorem rc_list_eq {l r : Addr} {n m : Nat} {Q : Value → Shared → Prop} (hu : A.units < cLine) (I : Shared → Prop) (P : Nat → Prop) (b : Bool) (p : Pairs prog w A E l r n m I P b) (hb : n ≠ m → b = false)
    (fin : ∀ s, I s → Q (.bool b) s) (h0 : n = m → P 0) (h : I s) : wpAny (model prog w) A (richCompare .Eq (.ref l) (.ref r)) Q E s := by
  obtain ⟨xs, ys, k1, k2, d1, d2, s1, s2, hl, hr, hx, hy, _⟩ := p.read s h
  by_cases hnm : n = m
  · refine wpAny_richCompare_same_room (op := .Eq) ⟨_, hl, rfl⟩ ⟨_, hr, rfl⟩ F.slot_list_eq (GQ.call_here F.slot_list_eq ⟨_, hl, rfl⟩ F.entry_list_eq (F.args_list_eq_2 _ _) ?_) hu
    have z := list_eq_body (R := wants (fun v s' => v ≠ .notImplemented ∧ Q v s') E) l r n m I P b p hnm (fun s' q => ⟨(fun x => nomatch x), fin s' q⟩) (h0 hnm) h
    exact wpAny_mono z (fun f s' q => by cases f <;> exact q) fun _ _ q => q
  · have e : Q (.bool false) s := by
      have z := fin s h
      rw [hb hnm] at z
      exact z
    exact RcAt.lists_lengths ⟨_, hl, rfl, _, rfl⟩ ⟨_, hr, rfl, _, rfl⟩ (by rw [hx, hy]; simpa using hnm) hu prog w E Q e
theorem rc_tuple_eq {l r : Addr} {xs ys : Array Value} {Q : Value → Shared → Prop} (hu : A.units < cLine) (I : Shared → Prop) (P : Nat → Prop) (b : Bool) (hl : s.heap.IsTuple l xs) (hr : s.heap.IsTuple r ys)
    (turn : ∀ i (h1 : i < xs.size) (h2 : i < ys.size) s, P i → I s → wpAny (model prog w) A.in1 (eqBool xs[i] ys[i]) (fun r s' => I s' ∧ (r = true → P (i + 1)) ∧ (r = false → b = false)) E s)
    (last : ∀ i, P i → i ≤ xs.size → i ≤ ys.size → ¬ (i < xs.size ∧ i < ys.size) → b = (xs.size == ys.size)) (fin : ∀ s, I s → Q (.bool b) s) (h0 : P 0) (h : I s) :
    wpAny (model prog w) A (richCompare .Eq (.ref l) (.ref r)) Q E s := by
  obtain ⟨⟨cls, dd, data, sl⟩, ho, hc, n, hd⟩ := id hl
  obtain ⟨⟨cls2, dd2, data2, sl2⟩, ho2, hc2, n2, hd2⟩ := id hr
  simp only at hc hd hc2 hd2
  subst hc hd hc2 hd2
  refine wpAny_richCompare_same_room (op := .Eq) ⟨_, ho, rfl⟩ ⟨_, ho2, rfl⟩ F.slot_tuple_eq (GQ.call_here F.slot_tuple_eq ⟨_, ho, rfl⟩ F.entry_tuple_eq (F.args_tuple_eq_2 _ _) ?_) hu
  have z := tuple_eq_body (R := wants (fun v s' => v ≠ .notImplemented ∧ Q v s') E) l r xs ys n n2 dd dd2 sl sl2 I P b turn last (fun s' q => ⟨(fun x => nomatch x), fin s' q⟩) ho ho2 h0 h
  exact wpAny_mono z (fun f s' q => by cases f <;> exact q) fun _ _ q => q

theorem rc_list_ne {l r : Addr} {n m : Nat} {Q : Value → Shared → Prop} (hu : A.units < cLine) (I : Shared → Prop) (P : Nat → Prop) (b : Bool) (p : Pairs prog w A E l r n m I P b) (hb : n ≠ m → b = false)
    (fin : ∀ s, I s → Q (.bool (!b)) s) (h0 : n = m → P 0) (h : I s) : wpAny (model prog w) A (richCompare .NotEq (.ref l) (.ref r)) Q E s := by
  obtain ⟨xs, ys, k1, k2, d1, d2, s1, s2, hl, hr, hx, hy, _⟩ := p.read s h
  by_cases hnm : n = m
  · refine wpAny_richCompare_same_room (op := .NotEq) ⟨_, hl, rfl⟩ ⟨_, hr, rfl⟩ F.slot_list_ne (GQ.call_here F.slot_list_ne ⟨_, hl, rfl⟩ F.entry_list_ne (F.args_list_ne_2 _ _) ?_) hu
    have z := list_ne_body (R := wants (fun v s' => v ≠ .notImplemented ∧ Q v s') E) l r n m I P b p hnm (fun s' q => ⟨(fun x => nomatch x), fin s' q⟩) (h0 hnm) h
    exact wpAny_mono z (fun f s' q => by cases f <;> exact q) fun _ _ q => q
  · have e : Q (.bool true) s := by
      have z := fin s h
      rw [hb hnm] at z
      exact z
    exact RcNeAt.lists_lengths ⟨_, hl, rfl, _, rfl⟩ ⟨_, hr, rfl, _, rfl⟩ (by rw [hx, hy]; simpa using hnm) hu prog w E Q e
theorem rc_tuple_ne {l r : Addr} {xs ys : Array Value} {Q : Value → Shared → Prop} (hu : A.units < cLine) (I : Shared → Prop) (P : Nat → Prop) (b : Bool) (hl : s.heap.IsTuple l xs) (hr : s.heap.IsTuple r ys)
    (turn : ∀ i (h1 : i < xs.size) (h2 : i < ys.size) s, P i → I s → wpAny (model prog w) A.in1 (eqBool xs[i] ys[i]) (fun r s' => I s' ∧ (r = true → P (i + 1)) ∧ (r = false → b = false)) E s)
    (last : ∀ i, P i → i ≤ xs.size → i ≤ ys.size → ¬ (i < xs.size ∧ i < ys.size) → b = (xs.size == ys.size)) (fin : ∀ s, I s → Q (.bool (!b)) s) (h0 : P 0) (h : I s) :
    wpAny (model prog w) A (richCompare .NotEq (.ref l) (.ref r)) Q E s := by
  obtain ⟨⟨cls, dd, data, sl⟩, ho, hc, n, hd⟩ := id hl
  obtain ⟨⟨cls2, dd2, data2, sl2⟩, ho2, hc2, n2, hd2⟩ := id hr
  simp only at hc hd hc2 hd2
  subst hc hd hc2 hd2
  refine wpAny_richCompare_same_room (op := .NotEq) ⟨_, ho, rfl⟩ ⟨_, ho2, rfl⟩ F.slot_tuple_ne (GQ.call_here F.slot_tuple_ne ⟨_, ho, rfl⟩ F.entry_tuple_ne (F.args_tuple_ne_2 _ _) ?_) hu
  have z := tuple_ne_body (R := wants (fun v s' => v ≠ .notImplemented ∧ Q v s') E) l r xs ys n n2 dd dd2 sl sl2 I P b turn last (fun s' q => ⟨(fun x => nomatch x), fin s' q⟩) ho ho2 h0 h
  exact wpAny_mono z (fun f s' q => by cases f <;> exact q) fun _ _ q => q
end
end Ce.SeqTwo
namespace Ce
open PySem PySem.Spec PyProof.Rows L2 Ce

/-! ### == and != of frozen values -/
/-- == (op: .Eq) or != (op: .NotEq) by the rich comparison, n levels of room -/
def QE (X : Cx) (T : Ct) (n : Nat) (ne : Bool) (q : D → D → Option Bool) : Prop :=
  ∀ (A : Around) (pins : List (Addr × Obj)) (s : Shared) (σ : L2.St) (H F : Hp) (x y : V) (u v : Value) (d1 d2 : D) (b : Bool) (Er : Value → Shared → Prop), Sub X n A → Inv X pins σ H s → Same F H → L2.RelV x u → L2.RelV y v → Is X.K T F x d1 → Is X.K T F y d2 → q d1 d2 = some b →
    wpAny (model X.prog X.w) A (richCompare (if ne then .NotEq else .Eq) u v) (fun r s' => r = .bool (b != ne) ∧ ∃ H' F', Inv X pins σ H' s' ∧ Nx H F H' F') Er s
/-- == inside a list or tuple: the same object is equal to itself -/
def QB (X : Cx) (T : Ct) (n : Nat) (q : D → D → Option Bool) : Prop :=
  ∀ (A : Around) (pins : List (Addr × Obj)) (s : Shared) (σ : L2.St) (H F : Hp) (x y : V) (u v : Value) (d1 d2 : D) (b : Bool) (Er : Value → Shared → Prop), Sub X n A → Inv X pins σ H s → Same F H → L2.RelV x u → L2.RelV y v → Is X.K T F x d1 → Is X.K T F y d2 → q d1 d2 = some b →
    wpAny (model X.prog X.w) A (eqBool u v) (fun r s' => r = b ∧ ∃ H' F', Inv X pins σ H' s' ∧ Nx H F H' F') Er s
def Refl (q : D → D → Option Bool) : Prop := ∀ d b, q d d = some b → b = true
theorem Nx.refl {H F : Hp} (f : Same F H) : Nx H F H F := ⟨Same.refl H, f, Gw.refl⟩

section
variable {X : Cx} {T : Ct} {n k c : Nat} {ne : Bool} {q q' : D → D → Option Bool} {f : Addr} {fd : FuncData} {ps : List Str} {m : En → Out D}
theorem QB.mono (h : QB X T n q) (hn : n ≤ k) : QB X T k q := fun A pins s σ H F x y u v d1 d2 b Er sb => h A pins s σ H F x y u v d1 d2 b Er (sb.mono hn)
theorem QE.mono (h : QE X T n ne q) (hn : n ≤ k) : QE X T k ne q := fun A pins s σ H F x y u v d1 d2 b Er sb => h A pins s σ H F x y u v d1 d2 b Er (sb.mono hn)
def orQ (q q' : D → D → Option Bool) : D → D → Option Bool := fun x y => match q x y with
  | some b => some b
  | none => q' x y
theorem QB.or (h : QB X T n q) (h' : QB X T n q') : QB X T n (orQ q q') := fun A pins s σ H F x y u v d1 d2 b Er sb I f rx ry i1 i2 e => by
  unfold orQ at e
  cases z : q d1 d2 with
  | none =>
    rw [z] at e
    exact h' A pins s σ H F x y u v d1 d2 b Er sb I f rx ry i1 i2 e
  | some r =>
    rw [z] at e
    exact h A pins s σ H F x y u v d1 d2 b Er sb I f rx ry i1 i2 (by rw [z]; exact e)
theorem Refl.or (h : Refl q) (h' : Refl q') : Refl (orQ q q') := fun d b e => by
  unfold orQ at e
  cases z : q d d with
  | none => rw [z] at e; exact h' d b e
  | some r =>
    rw [z] at e
    cases e
    exact h d _ z
/-! scalars -/
theorem seq_refl : Refl seq := by
  intro d b h
  cases d <;> simp_all [seq]
theorem qb_seq : QB X T 0 seq := by
  intro A pins s σ H F x y u v d1 d2 b Er sb I f rx ry i1 i2 e
  have z : flatV x = true ∧ flatV y = true ∧ eqV x y = b := by
    unfold seq at e
    split at e <;> (try cases e)
    · rw [i1.intI, i2.intI]; exact ⟨rfl, rfl, by rw [Bool.eq_iff_iff]; simp [eqV]⟩
    · rw [i1.strI, i2.strI]; exact ⟨rfl, rfl, by rw [Bool.eq_iff_iff]; simp [eqV]⟩
    · rw [i1.blI, i2.blI]; exact ⟨rfl, rfl, by rw [Bool.eq_iff_iff]; simp [eqV]⟩
    · rw [i1.nonI, i2.nonI]; exact ⟨rfl, rfl, by rw [Bool.eq_iff_iff]; simp [eqV]⟩
    · rw [i1.intI, i2.strI]; exact ⟨rfl, rfl, by rw [Bool.eq_iff_iff]; simp [eqV]⟩
    · rw [i1.strI, i2.intI]; exact ⟨rfl, rfl, by rw [Bool.eq_iff_iff]; simp [eqV]⟩
    · rw [i1.nonI, i2.intI]; exact ⟨rfl, rfl, by rw [Bool.eq_iff_iff]; simp [eqV]⟩
    · rw [i1.intI, i2.nonI]; exact ⟨rfl, rfl, by rw [Bool.eq_iff_iff]; simp [eqV]⟩
    · rw [i1.nonI, i2.strI]; exact ⟨rfl, rfl, by rw [Bool.eq_iff_iff]; simp [eqV]⟩
    · rw [i1.strI, i2.nonI]; exact ⟨rfl, rfl, by rw [Bool.eq_iff_iff]; simp [eqV]⟩
  obtain ⟨fx, fy, ev⟩ := z
  have t := eqAt_V (A := A) (s := s) rx ry fx fy
  rw [ev] at t
  exact t X.prog X.w Er _ ⟨rfl, H, F, I, Nx.refl f⟩
/-! instances by the program's own == -/
def qOwn (c : Nat) (m : En → Out D) : D → D → Option Bool := fun x y => match x, y with
  | .ins c1 xs, .ins c2 ys => if decide (c1 = c ∧ c2 = c) then (match m [some (.im (.ins c1 xs)), some (.im (.ins c2 ys))] with
    | .ok (.bl b) _ => some b
    | _ => none) else none
  | _, _ => none
structure EqOk (K : PySem.W.Frag) (T : Ct) (c : Nat) (f : Addr) : Prop where
  at_ : PySem.W.findIn K (.ref (T.cl c)) "__eq__" = some (some (.ref f))
  fn : PySem.W.isFn K (.ref f) = true
  ne : PySem.W.findIn K (.ref (T.cl c)) "__ne__" = some (some (.builtin "object.__ne__"))
  mro : PySem.W.mroIn K (T.cl c) (.type "object") = some true
theorem own_sp {H F : Hp} {x y : V} {d1 d2 : D} {b : Bool} {ρ : En} (f : Same F H) (i1 : Is X.K T F x d1) (i2 : Is X.K T F y d2) (e : m [some (.im d1), some (.im d2)] = .ok (.bl b) ρ) :
    spM X.K T 2 m [x, y] H (fun v H' => v = .bl b ∧ ∃ F', Nx H F H' F') noE := by
  have w0 : Wd X.K T H F H [] [] := ⟨Same.refl H, f, rfl, fun _ => [], fun i o z => by simp at z, fun i j a z => (by cases z), fun i a z => (by cases z)⟩
  have w := wd_args w0 (.cons i1 (.cons i2 .nil))
  refine ⟨rfl, H, F, _, w, ?_⟩
  show Post _ _ _ _ _ _ _ (m [some (.im d1), some (.im d2)]) _
  rw [e]
  exact fun F' H' v g w' i => ⟨i.blI, F', w'.b, w'.f, g⟩
theorem qe_own (k : EqOk X.K T c f) (F : FnM X T n f fd ps m) (hps : ps.length = 2) (hb : Dfl X.K T fd ps []) : QE X T n false (qOwn c m) := by
  intro A pins s σ H F0 x y u v d1 d2 b Er sb I hf rx ry i1 i2 e
  unfold qOwn at e
  split at e
  · split at e
    · rename_i c1 xs c2 ys hc
      obtain ⟨rfl, rfl⟩ := of_decide_eq_true hc
      split at e
      · rename_i b' ρ em
        cases e
        obtain ⟨a, dx, fs, rfl, ha, _, _⟩ := id i1.insI
        obtain ⟨a', dy, gs, rfl, ha', _, _⟩ := id i2.insI
        cases rx
        cases ry
        obtain ⟨mA, J, _⟩ := ins_get I.hok (hf _ _ ha)
        obtain ⟨mB, J', _⟩ := ins_get I.hok (hf _ _ ha')
        obtain ⟨od, J, _⟩ := J.look
        obtain ⟨od', J', _⟩ := J'.look
        obtain ⟨ml, hF⟩ := I.fr
        refine PySem.W.cmp_K (op := .Eq) (tb := .ref (T.cl c2)) sb.room.units0 hF I.ok.mod.kin J J'.type (by simp [PySem.W.notFirst]) k.at_ k.fn ?_
        refine wpAny_mono (run_sub (Q := fun v H' => v = .bl b ∧ ∃ F', Nx H F0 H' F') F sb hb I (.cons (show L2.RelV (.ref a) (.ref a) from rfl) (.cons (show L2.RelV (.ref a') (.ref a') from rfl) .nil)) (by rw [hps]; exact own_sp hf i1 i2 em)) (fun r s' z => ?_) fun _ _ z => z
        obtain ⟨w, H', I', rw', ew, F', nx⟩ := z
        subst ew
        cases rw'
        exact ⟨by simp, H', F', I', nx⟩
      · cases e
    · cases e
  · cases e
/-- != by object's own __ne__, which asks the program's == -/
theorem ifBound_ne {M : Model} {A : Around} {Er : Value → Shared → Prop} {s : Shared} {K : PySem.W.Frag} {x C : Addr} {ox : Obj} {od : Option Obj} {args : List Value} {Q : Option Value → Shared → Prop} (X : K.In s.heap) (I : PySem.W.InstAt s.heap x ox C od)
    (hs : PySem.W.findIn K (.ref C) "__ne__" = some (some (.builtin "object.__ne__"))) (h : wpAny M A (call (.builtin "object.__ne__") (.ref x :: args)) (fun v => Q (some v)) Er s) : wpAny M A (callSpecialIfBound? (.ref x) "__ne__" args) Q Er s := by
  simp only [callSpecialIfBound?, bindSpecialIfBound?]
  refine wpAny_holding (wpAny_bind (wpAny_bind (wpAny_bind (I.type.here ((PySem.W.looks_findIn X hs).here ?_)))))
  refine wpAny_bind (wpAny_askSetting (wpAny_ite ?_))
  have ends : wpAny M A (call (.builtin "object.__ne__") ([.ref x] ++ args) >>= fun v => pure (some v)) Q Er s := wpAny_bind (wpAny_mono h (fun v s' h' => wpAny_pure h') fun _ _ h' => h')
  split
  · exact wpAny_bind (wpAny_of_eq (F.cmp_object.ne.bind _) (wpAny_pure (by exact ends)))
  · exact wpAny_tryCatch (wpAny_bind (wpAny_of_eq (F.cmp_object.ne.bind _) (wpAny_pure (by exact ends))))
theorem ne_body {prog : Program} {w : World} {A : Around} {Er : Value → Shared → Prop} {s : Shared} {K : PySem.W.Frag} {x y C f : Addr} {ox : Obj} {od : Option Obj} {Q : Fin → Shared → Prop} (hu : A.units < cLine) (X : K.In s.heap) (I : PySem.W.InstAt s.heap x ox C od)
    (hs : PySem.W.findIn K (.ref C) "__eq__" = some (some (.ref f))) (hf : PySem.W.isFn K (.ref f) = true)
    (h : wpAny (model prog w) A (call (.ref f) [.ref x, .ref y]) (fun v s' => ∃ b, v = .bool b ∧ Q (.done (.ret (.bool (!b)))) s') Er s) : wpAny (model prog w) A (Builtin.«object.__ne__» ⟨[.ref x, .ref y], []⟩) Q Er s := by
  unfold Builtin.«object.__ne__»
  repeat (first
    | with_reducible refine wpAny_cRoomFor hu ?_
    | (refine wpAny_bind (m := callSpecialIfBound? (.ref x) (Str.ofString "__eq__") [.ref y]) (PySem.W.ifBound_K X I hs hf (wpAny_mono h (fun r s' hr => by
          obtain ⟨b, rfl, hq⟩ := hr
          repeat (first | exact hq | exact wpAny_pure hq | exact wpAny_truthy_bool hq | (refine wpAny_bind (m := truthy (.bool _)) (wpAny_truthy_bool ?_)) | wp_step)) fun _ _ e => e)))
    | wp_step)
theorem rc_ne {prog : Program} {w : World} {A : Around} {Er : Value → Shared → Prop} {s : Shared} {K : PySem.W.Frag} {x y C f : Addr} {ox oy : Obj} {od oe : Option Obj} {Q : Value → Shared → Prop} (hu : A.units + 1 < cLine) (X : K.In s.heap) (I : PySem.W.InstAt s.heap x ox C od) (J : PySem.W.InstAt s.heap y oy C oe)
    (k1 : PySem.W.findIn K (.ref C) "__ne__" = some (some (.builtin "object.__ne__"))) (k2 : PySem.W.mroIn K C (.type "object") = some true) (hs : PySem.W.findIn K (.ref C) "__eq__" = some (some (.ref f))) (hf : PySem.W.isFn K (.ref f) = true)
    (h : wpAny (model prog w) A.in1 (call (.ref f) [.ref x, .ref y]) (fun v s' => ∃ b, v = .bool b ∧ Q (.bool (!b)) s') Er s) : wpAny (model prog w) A (richCompare .NotEq (.ref x) (.ref y)) Q Er s := by
  have one : wpAny (model prog w) A (tryCompare (.ref x) "__ne__" (.ref y)) (fun r s' => ∃ b, r = some (.bool b) ∧ Q (.bool b) s') Er s := by
    unfold tryCompare
    refine wpAny_bind (ifBound_ne X I k1 (wpAny_call (codeAny_call_builtin F.cmp_object.ne.plain F.cmpEntry_ne (PySem.W.check_slot F.cmpKind_ne F.cmpSplit_ne (I.type.andThen (PySem.W.looks_mroIn X k2)) (F.cmpArgs_ne _ _) (ne_body (A := A.in1) hu X I hs hf (wpAny_mono h (fun v s' hv => ?_) fun _ _ e => e))))))
    obtain ⟨b, rfl, hq⟩ := hv
    first | exact ⟨b, rfl, wpAny_pure ⟨_, rfl, hq⟩⟩ | exact ⟨b, rfl, wpAny_pure (wpAny_pure ⟨_, rfl, hq⟩)⟩
  unfold richCompare
  simp only [oneThing_ref]
  refine wpAny_holding (wpAny_bind (wpAny_cRoomFor (Nat.lt_of_succ_lt hu) ?_))
  rw [cmpInfo_NotEq]
  dsimp only
  refine wpAny_bind (I.type.here (wpAny_bind (J.type.here ?_)))
  rw [show (Value.ref C != Value.ref C) = false from by simp]
  simp only [Bool.false_eq_true, if_false]
  refine wpAny_bind (wpAny_pure ?_)
  simp only [Bool.false_eq_true, if_false]
  refine wpAny_bind (wpAny_mono one (fun r s' z => ?_) fun _ _ e => e)
  obtain ⟨b, rfl, hq⟩ := z
  exact wpAny_pure hq
theorem qe_ownN (k : EqOk X.K T c f) (F : FnM X T n f fd ps m) (hps : ps.length = 2) (hb : Dfl X.K T fd ps []) : QE X T (n + 1) true (qOwn c m) := by
  intro A pins s σ H F0 x y u v d1 d2 b Er sb I hf rx ry i1 i2 e
  unfold qOwn at e
  split at e
  · split at e
    · rename_i c1 xs c2 ys hc
      obtain ⟨rfl, rfl⟩ := of_decide_eq_true hc
      split at e
      · rename_i b' ρ em
        cases e
        obtain ⟨a, dx, fs, rfl, ha, _, _⟩ := id i1.insI
        obtain ⟨a', dy, gs, rfl, ha', _, _⟩ := id i2.insI
        cases rx
        cases ry
        obtain ⟨mA, J, _⟩ := ins_get I.hok (hf _ _ ha)
        obtain ⟨mB, J', _⟩ := ins_get I.hok (hf _ _ ha')
        obtain ⟨od, J, _⟩ := J.look
        obtain ⟨od', J', _⟩ := J'.look
        refine rc_ne sb.in1.room.units0 I.kIn J J' k.ne k.mro k.at_ k.fn ?_
        refine wpAny_mono (run_sub (Q := fun v H' => v = .bl b ∧ ∃ F', Nx H F0 H' F') F sb.in1 hb I (.cons (show L2.RelV (.ref a) (.ref a) from rfl) (.cons (show L2.RelV (.ref a') (.ref a') from rfl) .nil)) (by rw [hps]; exact own_sp hf i1 i2 em)) (fun r s' z => ?_) fun _ _ z => z
        obtain ⟨w, H', I', rw', ew, F', nx⟩ := z
        subst ew
        cases rw'
        exact ⟨b, rfl, by simp, H', F', I', nx⟩
      · cases e
    · cases e
  · cases e
/-! from the rich comparison to == inside a list -/
theorem QE.qb (h : QE X T n false q) (hr : Refl q) (hT : T.Inj) (hq : ∀ d1 d2 b, q d1 d2 = some b → (∀ K F v, Is K T F v d1 → ∃ a, v = .ref a) ∧ ∀ K F v, Is K T F v d2 → ∃ a, v = .ref a) : QB X T n q := by
  intro A pins s σ H F x y u v d1 d2 b Er sb I f rx ry i1 i2 e
  obtain ⟨z1, z2⟩ := hq _ _ _ e
  obtain ⟨a, rfl⟩ := z1 _ _ _ i1
  obtain ⟨a', rfl⟩ := z2 _ _ _ i2
  by_cases hab : a = a'
  · subst hab
    cases rx
    cases ry
    cases Is.uniq (inv_tidy I f) hT i1 i2
    exact SeqAt.EqAt.same (A := A) (s := s) (.ref a) X.prog X.w Er _ ⟨(hr _ _ e).symm, H, F, I, Nx.refl f⟩
  · cases rx
    cases ry
    refine GQ.eqBool_refG hab (wpAny_mono (h A pins s σ H F _ _ _ _ d1 d2 b Er sb I f (show L2.RelV (.ref a) (.ref a) from rfl) (show L2.RelV (.ref a') (.ref a') from rfl) i1 i2 e) (fun r s' z => ?_) fun _ _ z => z)
    obtain ⟨hr', z⟩ := z
    exact ⟨b, by rw [hr']; simp, rfl, z⟩
theorem own_ref {d1 d2 : D} {b : Bool} (h : qOwn c m d1 d2 = some b) : (∀ K F v, Is K T F v d1 → ∃ a, v = .ref a) ∧ ∀ K F v, Is K T F v d2 → ∃ a, v = .ref a := by
  unfold qOwn at h
  split at h
  · exact ⟨fun K F v i => by obtain ⟨a, _, _, e, _⟩ := i.insI; exact ⟨a, e⟩, fun K F v i => by obtain ⟨a, _, _, e, _⟩ := i.insI; exact ⟨a, e⟩⟩
  · cases h
theorem qb_own (k : EqOk X.K T c f) (F : FnM X T n f fd ps m) (hps : ps.length = 2) (hb : Dfl X.K T fd ps []) (hr : Refl (qOwn c m)) (hT : T.Inj) : QB X T n (qOwn c m) := (qe_own k F hps hb).qb hr hT fun _ _ _ e => own_ref e
/-! pairs -/
def eqs (q : D → D → Option Bool) : List D → List D → Option Bool
  | [], [] => some true
  | [], _ :: _ => some false
  | _ :: _, [] => some false
  | x :: xs, y :: ys => match q x y with
    | some true => eqs q xs ys
    | r => r
theorem eqs_step {xs ys : List D} {i : Nat} {x y : D} {b : Bool} (h : eqs q (xs.drop i) (ys.drop i) = some b) (hx : xs[i]? = some x) (hy : ys[i]? = some y) : ∃ r, q x y = some r ∧ (r = true → eqs q (xs.drop (i + 1)) (ys.drop (i + 1)) = some b) ∧ (r = false → b = false) := by
  obtain ⟨h1, rfl⟩ := List.getElem?_eq_some_iff.mp hx
  obtain ⟨h2, rfl⟩ := List.getElem?_eq_some_iff.mp hy
  rw [List.drop_eq_getElem_cons h1, List.drop_eq_getElem_cons h2, eqs] at h
  split at h
  · rename_i z
    exact ⟨true, z, fun _ => h, fun z => by cases z⟩
  · rename_i z1 z2
    cases b with
    | true => exact absurd h z2
    | false => exact ⟨false, h, (fun z => by cases z), fun _ => rfl⟩
theorem eqs_last {xs ys : List D} {i : Nat} {b : Bool} (h : eqs q (xs.drop i) (ys.drop i) = some b) (hx : i ≤ xs.length) (hy : i ≤ ys.length) (n : ¬ (i < xs.length ∧ i < ys.length)) : b = (xs.length == ys.length) := by
  rcases Nat.lt_or_ge i xs.length with h1 | h1
  · have h2 : i = ys.length := by omega
    rw [List.drop_eq_getElem_cons h1, List.drop_of_length_le (l := ys) (by omega), eqs] at h
    cases h
    exact (beq_eq_false_iff_ne.mpr (by omega)).symm
  · have h1' : i = xs.length := by omega
    rw [List.drop_of_length_le (l := xs) (by omega)] at h
    rcases Nat.lt_or_ge i ys.length with h2 | h2
    · rw [List.drop_eq_getElem_cons h2, eqs] at h
      cases h
      exact (beq_eq_false_iff_ne.mpr (by omega)).symm
    · rw [List.drop_of_length_le (l := ys) (by omega), eqs] at h
      cases h
      exact (beq_iff_eq.mpr (by omega)).symm
theorem eqs_refl (hr : Refl q) : ∀ {xs : List D} {b : Bool}, eqs q xs xs = some b → b = true
  | [], b, h => by cases h; rfl
  | x :: xs, b, h => by
    rw [eqs] at h
    split at h
    · exact eqs_refl hr h
    · rename_i z
      cases b with
      | true => rfl
      | false => exact hr _ _ h
/-- the state while items are compared -/
def NxI (X : Cx) (pins : List (Addr × Obj)) (σ : L2.St) (H F : Hp) (s' : Shared) : Prop := ∃ H' F', Inv X pins σ H' s' ∧ Nx H F H' F'
theorem nx_turn (h : QB X T n q) {A : Around} (sb : Sub X (n + 1) A) {pins : List (Addr × Obj)} {σ : L2.St} {H F : Hp} {vs ws : List V} {xs ys : List D} {its its2 : List Value} {b : Bool} {Er : Value → Shared → Prop} (l1 : IsL X.K T F vs xs) (l2 : IsL X.K T F ws ys) (r1 : Vals vs its) (r2 : Vals ws its2)
    (i : Nat) (h1 : i < its.toArray.size) (h2 : i < its2.toArray.size) (s' : Shared) (hp : eqs q (xs.drop i) (ys.drop i) = some b) (I : NxI X pins σ H F s') :
    wpAny (model X.prog X.w) A.in1 (eqBool its.toArray[i] its2.toArray[i]) (fun r s2 => NxI X pins σ H F s2 ∧ (r = true → eqs q (xs.drop (i + 1)) (ys.drop (i + 1)) = some b) ∧ (r = false → b = false)) Er s' := by
  obtain ⟨H1, F1, I1, nx⟩ := I
  have k1 : i < vs.length := by rw [r1.length]; simpa using h1
  have k2 : i < ws.length := by rw [r2.length]; simpa using h2
  obtain ⟨u, hu, ru⟩ := r1.get (List.getElem?_eq_getElem k1)
  obtain ⟨v, hv, rv⟩ := r2.get (List.getElem?_eq_getElem k2)
  obtain ⟨d1, e1, i1⟩ := l1.getV (List.getElem?_eq_getElem k1)
  obtain ⟨d2, e2, i2⟩ := l2.getV (List.getElem?_eq_getElem k2)
  have g1 : its.toArray[i] = u := by
    have : its[i]? = some its.toArray[i] := by rw [List.getElem?_eq_getElem (by simpa using h1)]; simp
    rw [this] at hu
    exact Option.some.inj hu
  have g2 : its2.toArray[i] = v := by
    have : its2[i]? = some its2.toArray[i] := by rw [List.getElem?_eq_getElem (by simpa using h2)]; simp
    rw [this] at hv
    exact Option.some.inj hv
  obtain ⟨r, er, t1, t2⟩ := eqs_step hp e1 e2
  rw [g1, g2]
  refine wpAny_mono (h A.in1 pins s' σ H1 F1 _ _ u v d1 d2 r Er sb.in1 I1 nx.f ru rv (i1.mono nx.g.s) (i2.mono nx.g.s) er) (fun r' s2 z => ?_) fun _ _ z => z
  obtain ⟨rfl, H2, F2, I2, nx2⟩ := z
  exact ⟨⟨H2, F2, I2, nx.trans nx2⟩, t1, t2⟩
def qTup (q : D → D → Option Bool) : D → D → Option Bool := fun x y => match x, y with
  | .tup xs, .tup ys => eqs q xs ys
  | _, _ => none
def qLst (q : D → D → Option Bool) : D → D → Option Bool := fun x y => match x, y with
  | .lst xs, .lst ys => if decide (xs.length = ys.length) then eqs q xs ys else some false
  | _, _ => none
theorem Refl.tup (hr : Refl q) : Refl (qTup q) := fun d b h => by
  unfold qTup at h
  split at h
  · rename_i xs ys
    exact eqs_refl hr h
  · cases h
theorem Refl.lst (hr : Refl q) : Refl (qLst q) := fun d b h => by
  unfold qLst at h
  split at h
  · rename_i xs ys
    rw [decide_eq_true rfl] at h
    exact eqs_refl hr h
  · cases h
theorem qe_tup (h : QB X T n q) : QE X T (n + 1) ne (qTup q) := by
  intro A pins s σ H F x y u v d1 d2 b Er sb I f rx ry i1 i2 e
  unfold qTup at e
  split at e
  · rename_i xs ys
    obtain ⟨a, vs, rfl, s1, l1⟩ := i1.tupI
    obtain ⟨a', ws, rfl, s2, l2⟩ := i2.tupI
    cases rx
    cases ry
    obtain ⟨its, r1, t1, _⟩ := I.tuple (same_seq f s1)
    obtain ⟨its2, r2, t2, _⟩ := I.tuple (same_seq f s2)
    have z1 : its.toArray.size = xs.length := by rw [List.size_toArray, ← r1.length, l1.length]
    have z2 : its2.toArray.size = ys.length := by rw [List.size_toArray, ← r2.length, l2.length]
    cases ne with
    | false =>
      exact SeqTwo.rc_tuple_eq sb.room.units0 (NxI X pins σ H F) (fun i => eqs q (xs.drop i) (ys.drop i) = some b) b t1 t2 (fun i h1 h2 s' hp hi => nx_turn h sb l1 l2 r1 r2 i h1 h2 s' hp hi)
        (fun i hp h1 h2 h3 => by rw [z1, z2] at *; exact eqs_last hp h1 h2 h3) (fun s' hi => ⟨by simp, hi⟩) (by simpa using e) ⟨H, F, I, Nx.refl f⟩
    | true =>
      exact SeqTwo.rc_tuple_ne sb.room.units0 (NxI X pins σ H F) (fun i => eqs q (xs.drop i) (ys.drop i) = some b) b t1 t2 (fun i h1 h2 s' hp hi => nx_turn h sb l1 l2 r1 r2 i h1 h2 s' hp hi)
        (fun i hp h1 h2 h3 => by rw [z1, z2] at *; exact eqs_last hp h1 h2 h3) (fun s' hi => ⟨by simp, hi⟩) (by simpa using e) ⟨H, F, I, Nx.refl f⟩
  · cases e
theorem qe_lst (h : QB X T n q) : QE X T (n + 1) ne (qLst q) := by
  intro A pins s σ H F x y u v d1 d2 b Er sb I f rx ry i1 i2 e
  unfold qLst at e
  split at e
  · rename_i xs ys
    obtain ⟨a, vs, rfl, s1, l1⟩ := i1.lstI
    obtain ⟨a', ws, rfl, s2, l2⟩ := i2.lstI
    cases rx
    cases ry
    have p : SeqTwo.Pairs X.prog X.w A Er a a' xs.length ys.length (NxI X pins σ H F) (fun i => xs.length = ys.length ∧ eqs q (xs.drop i) (ys.drop i) = some b) b := by
      refine ⟨fun s' hi => ?_, fun i hp hn => ?_⟩
      · obtain ⟨H1, F1, I1, nx⟩ := id hi
        obtain ⟨its, r1, ⟨o, k, e1, c1, e2, e3⟩, _⟩ := I1.list (nx.h.seq (f.seq s1))
        obtain ⟨its2, r2, ⟨o2, k2, e4, c2, e5, e6⟩, _⟩ := I1.list (nx.h.seq (f.seq s2))
        have z1 : its.toArray.size = xs.length := by rw [List.size_toArray, ← r1.length, l1.length]
        have z2 : its2.toArray.size = ys.length := by rw [List.size_toArray, ← r2.length, l2.length]
        obtain ⟨oc, od, odt, osl⟩ := o
        obtain ⟨oc2, od2, odt2, osl2⟩ := o2
        simp only at c1 e2 e3 c2 e5 e6
        subst c1 e2 e3 c2 e5 e6
        refine ⟨its.toArray, its2.toArray, k, k2, _, _, _, _, e1, e4, z1, z2, fun i h1 h2 hp => ?_⟩
        exact wpAny_mono (nx_turn h sb l1 l2 r1 r2 i h1 h2 s' hp.2 hi) (fun r s2 z => ⟨z.1, fun t => ⟨hp.1, z.2.1 t⟩, z.2.2⟩) fun _ _ z => z
      · obtain ⟨hl, he⟩ := hp
        rw [List.drop_of_length_le (l := xs) (by omega), List.drop_of_length_le (l := ys) (by omega)] at he
        cases he
        exact (beq_iff_eq.mpr hl).symm
    have hb : xs.length ≠ ys.length → b = false := fun hn => by
      rw [decide_eq_false hn] at e
      cases e
      rfl
    have h0 : xs.length = ys.length → xs.length = ys.length ∧ eqs q (xs.drop 0) (ys.drop 0) = some b := fun hl => by
      rw [decide_eq_true hl] at e
      exact ⟨hl, by simpa using e⟩
    cases ne with
    | false => exact SeqTwo.rc_list_eq sb.room.units0 (NxI X pins σ H F) _ b p hb (fun s' hi => ⟨by simp, hi⟩) h0 ⟨H, F, I, Nx.refl f⟩
    | true => exact SeqTwo.rc_list_ne sb.room.units0 (NxI X pins σ H F) _ b p hb (fun s' hi => ⟨by simp, hi⟩) h0 ⟨H, F, I, Nx.refl f⟩
  · cases e
end

/-! ### as expressions -/
section
variable {X : Cx} {T : Ct} {W : WX} {n : Nat} {q : D → D → Option Bool}
def qEq (q : D → D → Option Bool) : D → D → En → Out D := fun x y => opt ((q x y).map D.bl)
def qNe (q : D → D → Option Bool) : D → D → En → Out D := fun x y => opt ((q x y).map fun k => D.bl (!k))
theorem of_qeq (h : QE X T n false q) (hr : Room n X.A) : OF X T W (compareOp .Eq) (qEq q) := by
  refine ⟨fun v1 v2 H Q => ∃ (F : Hp) (d1 d2 : D) (b : Bool), Same F H ∧ Is X.K T F v1 d1 ∧ Is X.K T F v2 d2 ∧ q d1 d2 = some b ∧ ∀ H' F', Nx H F H' F' → Q (.bl b) H', fun pins s σ H x y v u Q I rx ry z => ?_, fun B F H σ ρ Q v1 d1 v2 d2 w i1 i2 z => ?_⟩
  · obtain ⟨F, d1, d2, b, f, i1, i2, e, hq⟩ := z
    show wpAny (model X.prog X.w) X.A (richCompare .Eq v u) (EP X pins σ Q) X.xe s
    refine wpAny_mono (h X.A pins s σ H F x y v u d1 d2 b X.xe ⟨hr, rfl⟩ I f rx ry i1 i2 e) (fun r s' z => ?_) fun _ _ z => z
    obtain ⟨rfl, H', F', I', nx⟩ := z
    exact ⟨.bl b, H', I', by simp [L2.RelV], hq H' F' nx⟩
  · unfold qEq at z
    obtain ⟨d, e, g⟩ := opt_post z
    cases e' : q d1 d2 with
    | none => rw [e'] at e; cases e
    | some b =>
      rw [e'] at e
      cases e
      refine ⟨F, d1, d2, b, w.f, i1, i2, e', fun H' F' nx => ?_⟩
      obtain ⟨g2, w2⟩ := w.nx nx
      exact g F' H' _ g2 w2 (.bl b)
theorem of_qne (h : QE X T n true q) (hr : Room n X.A) : OF X T W (compareOp .NotEq) (qNe q) := by
  refine ⟨fun v1 v2 H Q => ∃ (F : Hp) (d1 d2 : D) (b : Bool), Same F H ∧ Is X.K T F v1 d1 ∧ Is X.K T F v2 d2 ∧ q d1 d2 = some b ∧ ∀ H' F', Nx H F H' F' → Q (.bl (!b)) H', fun pins s σ H x y v u Q I rx ry z => ?_, fun B F H σ ρ Q v1 d1 v2 d2 w i1 i2 z => ?_⟩
  · obtain ⟨F, d1, d2, b, f, i1, i2, e, hq⟩ := z
    show wpAny (model X.prog X.w) X.A (richCompare .NotEq v u) (EP X pins σ Q) X.xe s
    refine wpAny_mono (h X.A pins s σ H F x y v u d1 d2 b X.xe ⟨hr, rfl⟩ I f rx ry i1 i2 e) (fun r s' z => ?_) fun _ _ z => z
    obtain ⟨rfl, H', F', I', nx⟩ := z
    exact ⟨.bl (!b), H', I', by simp [L2.RelV], hq H' F' nx⟩
  · unfold qNe at z
    obtain ⟨d, e, g⟩ := opt_post z
    cases e' : q d1 d2 with
    | none => rw [e'] at e; cases e
    | some b =>
      rw [e'] at e
      cases e
      refine ⟨F, d1, d2, b, w.f, i1, i2, e', fun H' F' nx => ?_⟩
      obtain ⟨g2, w2⟩ := w.nx nx
      exact g F' H' _ g2 w2 (.bl (!b))
end
end Ce
namespace Ce
open PySem PySem.Spec PyProof.Rows L2 Ce

/-! ### operators by the program's own methods -/
structure BinOk (K : PySem.W.Frag) (T : Ct) (c : Nat) (op : Operator) (f : Addr) : Prop where
  first : PySem.W.selfFirst K (T.cl c) = true
  at_ : PySem.W.findIn K (.ref (T.cl c)) (PySem.dunder op.info.2) = some (some (.ref f))
  fn : PySem.W.isFn K (.ref f) = true
structure NegOk (K : PySem.W.Frag) (T : Ct) (c : Nat) (f : Addr) : Prop where
  at_ : PySem.W.findIn K (.ref (T.cl c)) "__neg__" = some (some (.ref f))
  fn : PySem.W.isFn K (.ref f) = true
def bin2 (c : Nat) (m : List D → En → Out D) (fa fb : En → Out D) : En → Out D := fun ρ => (fa ρ).bind fun x ρ => (fb ρ).bind fun y ρ => match x, y with
  | .ins c1 xs, .ins c2 ys => if decide (c1 = c ∧ c2 = c) then m [.ins c1 xs, .ins c2 ys] ρ else .er
  | _, _ => .er
def neg1 (c : Nat) (m : List D → En → Out D) (fa : En → Out D) : En → Out D := fun ρ => (fa ρ).bind fun x ρ => match x with
  | .ins c1 xs => if decide (c1 = c) then m [.ins c1 xs] ρ else .er
  | _ => .er
section
variable {X : Cx} {T : Ct} {W : WX} {c : Nat} {op : Operator} {f : Addr} {m : List D → En → Out D} {a b : Expr} {fa fb : En → Out D} {pos : Pos}
theorem pf_bin2 (k : BinOk X.K T c op f) (kf : KF X T W (.ref f) m) (ha : PF X T W a fa) (hb : PF X T W b fb) : PF X T W (.BinOp a op b pos) (bin2 c m fa fb) := by
  obtain ⟨r, cr, hp⟩ := kf
  obtain ⟨ta, hta, hpa⟩ := ha
  obtain ⟨tb, htb, hpb⟩ := hb
  refine ⟨fun σ H Q => ta σ H fun x H1 => tb σ H1 fun y H2 => ∃ a b dx dy fs gs, x = .ref a ∧ y = .ref b ∧ H2 a = some (.ins (T.cl c) dx fs) ∧ H2 b = some (.ins (T.cl c) dy gs) ∧ r σ [x, y] H2 Q, ⟨fun pins s σ H Q I h => ?_⟩, fun B F H σ ρ Q w q => ?_⟩
  · refine wpAny_BinOp (binT (R := fun x y H2 => ∃ a b dx dy fs gs, x = .ref a ∧ y = .ref b ∧ H2 a = some (.ins (T.cl c) dx fs) ∧ H2 b = some (.ins (T.cl c) dy gs) ∧ r σ [x, y] H2 Q) hta htb I h fun v u s2 x y H2 I2 rx ry q => ?_)
    obtain ⟨a', b', dx, dy, fs, gs, rfl, rfl, ea, eb, q⟩ := q
    cases rx
    cases ry
    obtain ⟨mA, J, _⟩ := ins_get I2.hok ea
    obtain ⟨mB, J', _⟩ := ins_get I2.hok eb
    obtain ⟨od, J, _⟩ := J.look
    obtain ⟨od', J', _⟩ := J'.look
    obtain ⟨ml, hF⟩ := I2.fr
    refine PySem.W.binop_K hF I2.ok.mod.kin J J'.type k.first k.at_ k.fn ?_
    refine wpAny_mono (cr pins s2 σ H2 [.ref a', .ref b'] [.ref a', .ref b'] Q I2 (.cons (show L2.RelV (.ref a') (.ref a') from rfl) (.cons (show L2.RelV (.ref b') (.ref b') from rfl) .nil)) q) (fun v s' z => ?_) fun _ _ z => z
    obtain ⟨z, H', I', rz, qz⟩ := z
    exact SlX.cmpback rz ⟨z, H', I', rz, qz⟩
  · refine hpa B F H σ ρ _ w (Post.step q fun x ρ1 F1 H1 v1 g1 w1 i1 q1 => ?_)
    refine hpb B F1 H1 σ ρ1 _ w1 (Post.step q1 fun y ρ2 F2 H2 v2 g2 w2 i2 q2 => ?_)
    cases x <;> try exact q2.elim
    cases y <;> try exact q2.elim
    rename_i c1 xs c2 ys
    dsimp only at q2
    split at q2
    · rename_i hc
      obtain ⟨rfl, rfl⟩ := of_decide_eq_true hc
      obtain ⟨a', dx, fs, rfl, ha', _, _⟩ := id (i1.mono g2.s).insI
      obtain ⟨b', dy, gs, rfl, hb', _, _⟩ := id i2.insI
      exact ⟨a', b', dx, dy, fs, gs, rfl, rfl, w2.f _ _ ha', w2.f _ _ hb', hp B F2 H2 σ ρ2 Q _ _ w2 (.cons (i1.mono g2.s) (.cons i2 .nil)) q2⟩
    · exact q2.elim
theorem pf_neg1 (k : NegOk X.K T c f) (kf : KF X T W (.ref f) m) (ha : PF X T W a fa) : PF X T W (.UnaryOp .USub a pos) (neg1 c m fa) := by
  obtain ⟨r, cr, hp⟩ := kf
  obtain ⟨ta, hta, hpa⟩ := ha
  refine ⟨fun σ H Q => ta σ H fun x H1 => ∃ a dx fs, x = .ref a ∧ H1 a = some (.ins (T.cl c) dx fs) ∧ r σ [x] H1 Q, ⟨fun pins s σ H Q I h => ?_⟩, fun B F H σ ρ Q w q => ?_⟩
  · refine UnaryOp_ (thn (hta.run pins s σ H _ I h) fun v s1 ⟨x, H1, I1, r1, a', dx, fs, ex, ea, q⟩ => ?_)
    subst ex
    cases r1
    obtain ⟨mA, J, _⟩ := ins_get I1.hok ea
    obtain ⟨od, J, _⟩ := J.look
    obtain ⟨ml, hF⟩ := I1.fr
    exact PySem.W.ksp_neg hF I1.ok.mod.kin J k.at_ k.fn (cr pins s1 σ H1 [.ref a'] [.ref a'] Q I1 (.cons (show L2.RelV (.ref a') (.ref a') from rfl) .nil) q)
  · refine hpa B F H σ ρ _ w (Post.step q fun x ρ1 F1 H1 v1 g1 w1 i1 q1 => ?_)
    cases x <;> try exact q1.elim
    rename_i c1 xs
    dsimp only at q1
    split at q1
    · rename_i hc
      obtain rfl := of_decide_eq_true hc
      obtain ⟨a', dx, fs, rfl, ha', _, _⟩ := id i1.insI
      exact ⟨a', dx, fs, rfl, w1.f _ _ ha', hp B F1 H1 σ ρ1 Q _ _ w1 (.cons i1 .nil) q1⟩
    · exact q1.elim
end

/-! ### static methods: x.a(..), x a class -/
structure StOk (K : PySem.W.Frag) (C : Addr) (mc : Value) (a : Str) (p g : Addr) : Prop where
  rd : PySem.W.readsIn K C mc = true
  ga : PySem.W.specialIn K (.ref C) "__getattribute__" = some (some (.builtin "type.__getattribute__"))
  at_ : PySem.W.findCls K (.ref C) mc a = some (.get (.builtin "staticmethod.__get__") (.ref p) .none (.ref C))
  rc : ∃ rest, PySem.W.recIn K p "staticmethod" = some (.ref g :: rest)
  kp : PySem.W.keepIn K (.ref g) = true
section
variable {X : Cx} {T : Ct} {W : WX} {m : List D → En → Out D} {x a : Str} {C p g : Addr} {mc : Value} {ps pos apos : Pos} {e : Expr} {es : List Expr} {gs : En → Out (List D)} {pl : Sem Bool}
theorem get_static {pins : List (Addr × Obj)} {σ : L2.St} {H : Hp} {s : Shared} {A : Around} {E : Value → Shared → Prop} {Q : Value × List Value → Shared → Prop} (I : Inv X pins σ H s) (k : StOk X.K C mc a p g)
    (h : ∀ s', Inv X pins σ H s' → Q (.ref g, []) s') : wpAny (model X.prog X.w) A (getMethod (.ref C) a pl) Q E s := by
  obtain ⟨rest, hp⟩ := k.rc
  refine PySem.W.method_cls I.kIn k.ga (PySem.W.cls_bind I.kIn k.rd k.at_ (wpAny_call (PySem.W.sm_get (s := { s with toks := s.toks + 1 }) I.kIn hp ?_)))
  exact PySem.W.handed_on rfl (h _ (I.tok _))
theorem pf_st (k : StOk X.K C mc a p g) (kf : KF X T W (.ref g) m) (hg : Gl X x) (hm : X.mg x = some (.ref C)) (ha : AF X T W (e :: es) gs) (hdb : (x == ("__debug__" : Str)) = false := by decide)
    (hst : starEach (e :: es) X.env = (false, eval e X.env) :: starEach es X.env := by rfl) (hpl : (backTo pos (starEach es X.env)).any (·.1) = false := by rfl)
    (ht : eval (.Call (.Attribute (.Name x ps) a apos) (e :: es) [] pos) X.env = (do
      let ov ← eval (.Name x ps) X.env
      standAt apos.atName
      let (f, first) ← holding [ov] (getMethod ov a pl)
      callWith pos f first (backTo pos (starEach (e :: es) X.env)) (backToKw pos (keywordEach [] X.env))) := by rfl) : PF X T W (.Call (.Attribute (.Name x ps) a apos) (e :: es) [] pos) (cl1 m gs) := by
  obtain ⟨r, cr, hp⟩ := kf
  obtain ⟨t, hta, hq⟩ := ha
  refine ⟨fun σ H Q => t σ H fun vs H1 => r σ vs H1 Q, ⟨fun pins s σ H Q I h => ?_⟩, fun B F H σ ρ Q w q => hq B F H σ ρ _ w (Post.step q fun ds ρ1 F1 H1 vs g1 w1 l1 q1 => hp B F1 H1 σ ρ1 Q vs ds w1 l1 q1)⟩
  refine PySem.W.methodCall_KW (pl := pl) (Q := EP X pins σ Q) ?_ ht
  refine ld_glob I hg hm ?_ hdb
  exact get_static I k fun s1 I1 => PySem.W.callWith_K (h₀ := X.base) I1.ok.mod.kin k.kp (thn (hta.run pos pins s1 σ H _ I1 h) fun us s2 ⟨vs, H2, I2, r2, q2⟩ => ⟨I2.kIn, cr pins s2 σ H2 us vs Q I2 r2 q2⟩) hst hpl
end

/-! ### isinstance -/
/-- a class whose instances isinstance can look at -/
structure InOk (K : PySem.W.Frag) (T : Ct) (c : Nat) : Prop where
  cls : Cls K (T.cl c)
  isi : SlX.SIsi K (T.cl c)
def dty (T : Ct) : D → Value
  | .non => .type "NoneType"
  | .bl _ => .type "bool"
  | .int _ => .type "int"
  | .str _ => .type "str"
  | .lst _ => .type "list"
  | .tup _ => .type "tuple"
  | .ins c _ => .ref (T.cl c)
  | .raw _ => .none
def tyOk (cs : List Nat) : D → Bool
  | .raw _ => false
  | .ins c _ => cs.contains c
  | _ => true
theorem ty_of {K : PySem.W.Frag} {T : Ct} {F H : Hp} {v : V} {d : D} {cs : List Nat} (i : Is K T F v d) (f : Same F H) (hc : ∀ c ∈ cs, InOk K T c) (h : tyOk cs d = true) : TyX K H v (dty T d) := by
  cases i with
  | non => exact .base .non
  | bl b => exact .base (.bl b)
  | int i => exact .base (.int i)
  | str s => exact .base (.str s)
  | raw v hv => cases h
  | lst s l =>
    rcases f.seq s with (s | ⟨o, s⟩) | ⟨o, its, n, e1, c1, _⟩
    · exact .base (.lst s)
    · exact .base (.frz s)
    · exact .kList e1 c1
  | tup s l =>
    rcases same_seq f s with (s | ⟨o, s⟩) | ⟨o, its, n, e1, c1, _⟩
    · exact .base (.tup s)
    · exact .fTuple s
    · exact .kTuple e1 c1
  | ins ha n l =>
    rename_i a dx c fs ds
    obtain ⟨k, k2⟩ := hc c (by simpa [tyOk] using h)
    exact .base (.ins (f _ _ ha) k k2.ca k2.cn k2.ct k2.cm)
section
variable {X : Cx} {T : Ct} {W : WX} {x y : Str} {p p2 pos : Pos} {e : Expr} {f : En → Out D} {cs : List Nat}
def isi1 (k : D → Option Bool) (f : En → Out D) : En → Out D := fun ρ => (f ρ).bind fun d ρ => match k d with
  | some b => .ok (.bl b) ρ
  | none => .er
theorem pf_isi1 {z : V} {u : Value} {k : D → Option Bool} (hz : ClsV z u) (hcs : ∀ c ∈ cs, InOk X.K T c) (hk : ∀ d b, k d = some b → tyOk cs d = true ∧ PySem.W.kitOne X.K (dty T d) u = some b) (he : PF X T W e f) (hy : PE X (.Name y p2) (tC z))
    (hg : Gl X x) (hm : X.mg x = none) (hv : bootBuiltins x = some (.builtin "isinstance")) (hn : x ≠ "__name__" := by decide) (hdb : (x == ("__debug__" : Str)) = false := by decide)
    (h1 : starEach [e, .Name y p2] X.env = (false, eval e X.env) :: starEach [.Name y p2] X.env := by rfl) (h2 : starEach [.Name y p2] X.env = (false, eval (.Name y p2) X.env) :: starEach [] X.env := by rfl)
    (hpl : (backTo pos (starEach [.Name y p2] X.env)).any (·.1) = false := by rfl) :
    PF X T W (.Call (.Name x p) [e, .Name y p2] [] pos) (isi1 k f) := by
  obtain ⟨t, ht, hp⟩ := he
  refine ⟨_, pe_callB call_isi hg hm hv (pa_cons ht (pa_cons hy pa_nil h2) h1) hn hdb h1 hpl, fun B F H σ ρ Q w q => hp B F H σ ρ _ w (Post.step q fun d ρ1 F1 H1 v g1 w1 i1 q1 => ?_)⟩
  cases ek : k d with
  | none => rw [ek] at q1; exact q1.elim
  | some b =>
    rw [ek] at q1
    obtain ⟨k1, k2⟩ := hk d b ek
    exact ⟨v, z, dty T d, u, b, rfl, hz, ty_of i1 w1.f hcs k1, k2, q1 F1 H1 (.bl b) Gw.refl w1 (.bl b)⟩
/-- a class of the program -/
structure IsC (K : PySem.W.Frag) (T : Ct) (c : Nat) (cs : List Nat) : Prop where
  own : ∀ c' ∈ cs, PySem.W.kitOne K (.ref (T.cl c')) (.ref (T.cl c)) = some (decide (c' = c))
  base : ∀ n ∈ ["NoneType", "bool", "int", "str", "list", "tuple"], PySem.W.kitOne K (.type n) (.ref (T.cl c)) = some false
def kIsC (c : Nat) (cs : List Nat) : D → Option Bool
  | .raw _ => none
  | .ins c' _ => if cs.contains c' then some (decide (c' = c)) else none
  | _ => some false
theorem pf_isC {c : Nat} (h : IsC X.K T c cs) (hcs : ∀ c ∈ cs, InOk X.K T c) (he : PF X T W e f) (hgy : Gl X y) (hmy : X.mg y = some (.ref (T.cl c)))
    (hg : Gl X x) (hm : X.mg x = none) (hv : bootBuiltins x = some (.builtin "isinstance")) (hdy : (y == ("__debug__" : Str)) = false := by decide) (hn : x ≠ "__name__" := by decide) (hdb : (x == ("__debug__" : Str)) = false := by decide)
    (h1 : starEach [e, .Name y p2] X.env = (false, eval e X.env) :: starEach [.Name y p2] X.env := by rfl) (h2 : starEach [.Name y p2] X.env = (false, eval (.Name y p2) X.env) :: starEach [] X.env := by rfl)
    (hpl : (backTo pos (starEach [.Name y p2] X.env)).any (·.1) = false := by rfl) :
    PF X T W (.Call (.Name x p) [e, .Name y p2] [] pos) (isi1 (kIsC c cs) f) := by
  refine pf_isi1 (ClsV.own _) hcs (fun d b hd => ?_) he (pe_glob hgy hmy rfl hdy) hg hm hv hn hdb h1 h2 hpl
  cases d with
  | raw v => cases hd
  | ins c' ds =>
    change (if cs.contains c' then some (decide (c' = c)) else none) = some b at hd
    split at hd
    · rename_i hc
      cases hd
      exact ⟨hc, h.own c' (by simpa using hc)⟩
    · cases hd
  | non => cases hd; exact ⟨rfl, h.base _ (by simp)⟩
  | bl b => cases hd; exact ⟨rfl, h.base _ (by simp)⟩
  | int b => cases hd; exact ⟨rfl, h.base _ (by simp)⟩
  | str b => cases hd; exact ⟨rfl, h.base _ (by simp)⟩
  | lst b => cases hd; exact ⟨rfl, h.base _ (by simp)⟩
  | tup b => cases hd; exact ⟨rfl, h.base _ (by simp)⟩
/-- a built-in type -/
def kIsT (n : String) (cs : List Nat) : D → Option Bool
  | .raw _ => none
  | .ins c' _ => if cs.contains c' then some false else none
  | .non => some false
  | .bl _ => some (decide (n = "bool" ∨ n = "int"))
  | .int _ => some (decide (n = "int"))
  | .str _ => some (decide (n = "str"))
  | .lst _ => some (decide (n = "list"))
  | .tup _ => some (decide (n = "tuple"))
theorem kit_tab : (["bool", "int", "str", "list", "tuple"].all fun n => decide (kitB "NoneType" n = some false) && decide (kitB "bool" n = some (decide (n = "bool" ∨ n = "int"))) && decide (kitB "int" n = some (decide (n = "int"))) && decide (kitB "str" n = some (decide (n = "str"))) &&
    decide (kitB "list" n = some (decide (n = "list"))) && decide (kitB "tuple" n = some (decide (n = "tuple")))) = true := by decide +kernel
theorem pf_isT {n : String} (hn5 : n ∈ ["bool", "int", "str", "list", "tuple"]) (hcs : ∀ c ∈ cs, InOk X.K T c) (hco : ∀ c ∈ cs, PySem.W.kitOne X.K (.ref (T.cl c)) (.type n) = some false) (he : PF X T W e f) (hgy : Gl X y) (hmy : X.mg y = none) (hvy : bootBuiltins y = some (.type n))
    (hg : Gl X x) (hm : X.mg x = none) (hv : bootBuiltins x = some (.builtin "isinstance")) (hny : y ≠ "__name__" := by decide) (hdy : (y == ("__debug__" : Str)) = false := by decide) (hn : x ≠ "__name__" := by decide) (hdb : (x == ("__debug__" : Str)) = false := by decide)
    (h1 : starEach [e, .Name y p2] X.env = (false, eval e X.env) :: starEach [.Name y p2] X.env := by rfl) (h2 : starEach [.Name y p2] X.env = (false, eval (.Name y p2) X.env) :: starEach [] X.env := by rfl)
    (hpl : (backTo pos (starEach [.Name y p2] X.env)).any (·.1) = false := by rfl) :
    PF X T W (.Call (.Name x p) [e, .Name y p2] [] pos) (isi1 (kIsT n cs) f) := by
  have tab := (List.all_eq_true.mp kit_tab) n hn5
  simp only [Bool.and_eq_true, decide_eq_true_eq] at tab
  obtain ⟨⟨⟨⟨⟨t1, t2⟩, t3⟩, t4⟩, t5⟩, t6⟩ := tab
  refine pf_isi1 (ClsV.ty n) hcs (fun d b hd => ?_) he (pe_bltn (v := .ty n) hgy hmy hvy rfl hny hdy) hg hm hv hn hdb h1 h2 hpl
  cases d with
  | raw v => cases hd
  | ins c' ds =>
    change (if cs.contains c' then some false else none) = some b at hd
    split at hd
    · rename_i hc
      cases hd
      exact ⟨hc, hco c' (by simpa using hc)⟩
    · cases hd
  | non => cases hd; exact ⟨rfl, kit_ty t1⟩
  | bl b => cases hd; exact ⟨rfl, kit_ty t2⟩
  | int b => cases hd; exact ⟨rfl, kit_ty t3⟩
  | str b => cases hd; exact ⟨rfl, kit_ty t4⟩
  | lst b => cases hd; exact ⟨rfl, kit_ty t5⟩
  | tup b => cases hd; exact ⟨rfl, kit_ty t6⟩
end

/-! ### calls with keywords -/
/-- keyword arguments, all frozen -/
structure KwF (X : Cx) (T : Ct) (W : WX) (kws : List Keyword) (f : En → Out (List D)) : Prop where
  ex : ∃ t, PK X kws t ∧ ∀ (B F H : Hp) (σ : L2.St) (ρ : En) (Q : List V → Hp → Prop), Wd X.K T B F H σ ρ → Post X.K T W B F σ (IsL X.K T) (f ρ) Q → t σ H Q
/-- the callable u with n positional arguments and the keywords ks, on frozen values -/
structure KFK (X : Cx) (T : Ct) (W : WX) (u : Value) (ks : List Str) (m : List D → List D → En → Out D) : Prop where
  ex : ∃ r, CalK X u ks r ∧ ∀ (B F H : Hp) (σ : L2.St) (ρ : En) (Q : VK) vs zs ds es, Wd X.K T B F H σ ρ → IsL X.K T F vs ds → IsL X.K T F zs es → Post X.K T W B F σ (Is X.K T) (m ds es ρ) Q → r σ vs zs H Q
end Ce
namespace Ce
open PySem PySem.Spec PyProof.Rows L2 Ce

/-- how statements end -/
inductive SOut where
  | nx (ρ : En) | rt (d : D) (ρ : En) | bk (ρ : En) | ct (ρ : En) | ex (x : Xn) (ρ : En) | er
/-- the slots bs stay -/
def Kp (bs : List Nat) (σ σ' : L2.St) : Prop := ∀ i ∈ bs, σ'[i]? = σ[i]?
theorem Kp.refl {bs : List Nat} {σ : L2.St} : Kp bs σ σ := fun _ _ => rfl
theorem Kp.trans {bs : List Nat} {σ σ1 σ2 : L2.St} (h : Kp bs σ σ1) (h' : Kp bs σ1 σ2) : Kp bs σ σ2 := fun i m => (h' i m).trans (h i m)
theorem Kp.set {bs : List Nat} {σ : L2.St} {i : Nat} {v : Option V} (h : bs.contains i = false) : Kp bs σ (σ.set i v) := fun j m => by
  rw [List.getElem?_set_ne]
  rintro rfl
  have z : bs.contains i = true := by simpa using m
  rw [h] at z
  cases z
/-- what is wanted of an end -/
def PostS (K : PySem.W.Frag) (T : Ct) (W : WX) (bs : List Nat) (B F : Hp) (σ : L2.St) (r : SOut) (E : Ends) : Prop := match r with
  | .nx ρ => ∀ F' H' σ', Gw B F F' → Kp bs σ σ' → Wd K T B F' H' σ' ρ → E.nx σ' H'
  | .bk ρ => ∀ F' H' σ', Gw B F F' → Kp bs σ σ' → Wd K T B F' H' σ' ρ → E.bk σ' H'
  | .ct ρ => ∀ F' H' σ', Gw B F F' → Kp bs σ σ' → Wd K T B F' H' σ' ρ → E.ct σ' H'
  | .rt d ρ => ∀ F' H' σ' v, Gw B F F' → Kp bs σ σ' → Wd K T B F' H' σ' ρ → Is K T F' v d → E.rt v H'
  | .ex x ρ => ∀ F' H' σ' c dd, Gw B F F' → Kp bs σ σ' → Wd K T B F' H' σ' ρ → ExIs K T F' H' c dd x → W c dd σ' H'
  | .er => False
structure ZF (X : Cx) (T : Ct) (W : WX) (bs : List Nat) (st : Stmt) (f : En → SOut) : Prop where
  ex : ∃ t, PS X st t ∧ ∀ (B F H : Hp) (σ : L2.St) (ρ : En) (E : Ends), Wd X.K T B F H σ ρ → PostS X.K T W bs B F σ (f ρ) E → t E σ H
structure ZFs (X : Cx) (T : Ct) (W : WX) (bs : List Nat) (st : List Stmt) (f : En → SOut) : Prop where
  ex : ∃ t, PSs X st t ∧ ∀ (B F H : Hp) (σ : L2.St) (ρ : En) (E : Ends), Wd X.K T B F H σ ρ → PostS X.K T W bs B F σ (f ρ) E → t E σ H

section
variable {K : PySem.W.Frag} {T : Ct} {W : WX} {bs : List Nat} {B F F' H H' : Hp} {σ σ' : L2.St} {E : Ends} {r : SOut}
theorem PostS.gw (h : PostS K T W bs B F σ r E) (g : Gw B F F') (k : Kp bs σ σ') : PostS K T W bs B F' σ' r E := by
  cases r with
  | nx ρ => exact fun F2 H2 σ2 g2 k2 => h F2 H2 σ2 (g.trans g2) (k.trans k2)
  | bk ρ => exact fun F2 H2 σ2 g2 k2 => h F2 H2 σ2 (g.trans g2) (k.trans k2)
  | ct ρ => exact fun F2 H2 σ2 g2 k2 => h F2 H2 σ2 (g.trans g2) (k.trans k2)
  | rt d ρ => exact fun F2 H2 σ2 v g2 k2 => h F2 H2 σ2 v (g.trans g2) (k.trans k2)
  | ex x ρ => exact fun F2 H2 σ2 c dd g2 k2 => h F2 H2 σ2 c dd (g.trans g2) (k.trans k2)
  | er => exact h
/-- an expression, then statements -/
def Out.st {α : Type} (r : Out α) (k : α → En → SOut) : SOut := match r with
  | .ok a ρ => k a ρ
  | .ex x ρ => .ex x ρ
  | .er => .er
theorem PostS.ofX {α : Type} {g : α → En → Prop} {r : Out α} {k : α → En → SOut} (h : PostS K T W bs B F σ (r.st k) E) (hi : ∀ a ρ, PostS K T W bs B F σ (k a ρ) E → g a ρ) : PostX K T W B F σ g r := by
  cases r with
  | ok a ρ => exact hi a ρ h
  | ex x ρ => exact fun F2 H2 c dd g2 w2 e2 => h F2 H2 σ c dd g2 Kp.refl w2 e2
  | er => exact h
theorem PostS.ofP {α β : Type} {R : Hp → β → α → Prop} {Q : β → Hp → Prop} {r : Out α} {k : α → En → SOut} (h : PostS K T W bs B F σ (r.st k) E) (hi : ∀ a ρ F' H' b, Gw B F F' → Wd K T B F' H' σ ρ → R F' b a → PostS K T W bs B F' σ (k a ρ) E → Q b H') : Post K T W B F σ R r Q :=
  h.ofX fun a ρ h F' H' b g w i => hi a ρ F' H' b g w i (h.gw g Kp.refl)
/-- statements, one behind another -/
def SOut.sq (r : SOut) (k : En → SOut) : SOut := match r with
  | .nx ρ => k ρ
  | r => r
theorem PostS.sq {k : En → SOut} {N : L2.St → Hp → Prop} (h : PostS K T W bs B F σ (r.sq k) E) (hi : ∀ ρ F' H' σ', Gw B F F' → Kp bs σ σ' → Wd K T B F' H' σ' ρ → PostS K T W bs B F' σ' (k ρ) E → N σ' H') : PostS K T W bs B F σ r { E with nx := N } := by
  cases r with
  | nx ρ => exact fun F2 H2 σ2 g2 k2 w2 => hi ρ F2 H2 σ2 g2 k2 w2 (PostS.gw h g2 k2)
  | bk ρ => exact h
  | ct ρ => exact h
  | rt d ρ => exact h
  | ex x ρ => exact h
  | er => exact h
end

section
variable {X : Cx} {T : Ct} {W : WX} {bs : List Nat} {e : Expr} {f : En → Out D} {pos p : Pos} {st : Stmt} {rest : List Stmt} {fs gs : En → SOut}
/-! ### blocks -/
def sNil : En → SOut := fun ρ => .nx ρ
def sCons (f g : En → SOut) : En → SOut := fun ρ => (f ρ).sq g
theorem zs_nil : ZFs X T W bs [] sNil := ⟨_, pss_nil, fun B F H σ ρ E w q => q F H σ Gw.refl Kp.refl w⟩
theorem zs_cons (h1 : ZF X T W bs st fs) (h2 : ZFs X T W bs rest gs) : ZFs X T W bs (st :: rest) (sCons fs gs) := by
  obtain ⟨t, ht, hp⟩ := h1
  obtain ⟨u, hu, hq⟩ := h2
  exact ⟨_, pss_cons ht hu, fun B F H σ ρ E w q => hp B F H σ ρ _ w (PostS.sq q fun ρ' F' H' σ' g k w' q' => hq B F' H' σ' ρ' E w' q')⟩
theorem zs_one (h1 : ZF X T W bs st fs) : ZFs X T W bs [st] fs := by
  obtain ⟨t, ht, hp⟩ := h1
  exact ⟨_, pss_one ht, hp⟩
/-! ### small statements -/
def sRet (f : En → Out D) : En → SOut := fun ρ => (f ρ).st fun d ρ => .rt d ρ
theorem z_ret (h : PF X T W e f) : ZF X T W bs (.Return (some e) pos) (sRet f) := by
  obtain ⟨t, ht, hp⟩ := h
  exact ⟨_, ps_ret ht, fun B F H σ ρ E w q => hp B F H σ ρ _ w (PostS.ofP q fun d ρ1 F1 H1 v g1 w1 i1 q1 => q1 F1 H1 σ v Gw.refl Kp.refl w1 i1)⟩
def sRetN : En → SOut := fun ρ => .rt .non ρ
theorem z_retN : ZF X T W bs (.Return none pos) sRetN := ⟨_, ps_retN, fun B F H σ ρ E w q => q F H σ .non Gw.refl Kp.refl w .non⟩
theorem z_pass : ZF X T W bs (.Pass pos) sNil := ⟨_, ps_pass, fun B F H σ ρ E w q => q F H σ Gw.refl Kp.refl w⟩
def sBk : En → SOut := fun ρ => .bk ρ
def sCt : En → SOut := fun ρ => .ct ρ
theorem z_break : ZF X T W bs (.Break pos) sBk := ⟨_, ps_break, fun B F H σ ρ E w q => q F H σ Gw.refl Kp.refl w⟩
theorem z_cont : ZF X T W bs (.Continue pos) sCt := ⟨_, ps_continue, fun B F H σ ρ E w q => q F H σ Gw.refl Kp.refl w⟩
def sExpr (f : En → Out D) : En → SOut := fun ρ => (f ρ).st fun _ ρ => .nx ρ
theorem z_expr (h : PF X T W e f) (hs : swapsWith e none pos.line X.env = pure false := by rfl) : ZF X T W bs (.Expr e pos) (sExpr f) := by
  obtain ⟨t, ht, hp⟩ := h
  exact ⟨_, ps_expr ht hs, fun B F H σ ρ E w q => hp B F H σ ρ _ w (PostS.ofP q fun d ρ1 F1 H1 v g1 w1 i1 q1 => q1 F1 H1 σ Gw.refl Kp.refl w1)⟩
/-- code that is not reached -/
def sEr : En → SOut := fun _ => .er
theorem z_never : ZF X T W bs st sEr := ⟨_, ps_never, fun B F H σ ρ E w q => q.elim⟩
theorem zs_never : ZFs X T W bs rest sEr := ⟨_, pss_never, fun B F H σ ρ E w q => q.elim⟩
def sIf (c : En → Out Bool) (f g : En → SOut) : En → SOut := fun ρ => (c ρ).st fun b ρ => match b with
  | true => f ρ
  | false => g ρ
theorem z_if {c : Expr} {fc : En → Out Bool} {a b : List Stmt} (hc : TF X T W c fc) (ha : ZFs X T W bs a fs) (hb : ZFs X T W bs b gs) : ZF X T W bs (.If c a b pos) (sIf fc fs gs) := by
  obtain ⟨t, ht, hp⟩ := hc
  obtain ⟨u, hu, hq⟩ := ha
  obtain ⟨v, hv, hr⟩ := hb
  refine ⟨_, ps_if ht hu hv, fun B F H σ ρ E w q => hp B F H σ ρ _ w (PostS.ofP q fun d ρ1 F1 H1 b g1 w1 i1 q1 => ?_)⟩
  cases i1
  cases d with
  | true => exact hq B F1 H1 σ ρ1 E w1 q1
  | false => exact hr B F1 H1 σ ρ1 E w1 q1
/-! ### names are set -/
theorem Wd.putIm' {K : PySem.W.Frag} {B F H : Hp} {σ : L2.St} {ρ : En} {v : V} {d : D} {i : Nat} (w : Wd K T B F H σ ρ) (q : Is K T F v d) : Wd K T B F H (σ.set i (some v)) (ρ.set i (some (.im d))) := by
  by_cases h : i < σ.length
  · exact w.putIm q h
  · rw [List.set_eq_of_length_le (by omega), List.set_eq_of_length_le (by have := w.l; omega)]
    exact w
def sSet (i : Nat) (f : En → Out D) : En → SOut := fun ρ => (f ρ).st fun d ρ => .nx (ρ.set i (some (.im d)))
theorem z_set {i : Nat} {x : Str} (hN : X.N.Nodup) (hi : X.N[i]? = some x) (hx : Loc X.env.scope x) (h : PF X T W e f) (hs : swapsWith e (some (.Name x p)) pos.line X.env = pure false := by rfl)
    (hb : bs.contains i = false := by rfl) (hf : X.fn x = true ∨ X.env.scope.names.lookup x = some .local := by first | exact .inl rfl | exact .inr rfl | assumption) : ZF X T W bs (.Assign [.Name x p] e pos) (sSet i f) := by
  obtain ⟨t, ht, hp⟩ := h
  refine ⟨_, ps_set hN hi hx ht hs hf, fun B F H σ ρ E w q => hp B F H σ ρ _ w (PostS.ofP q fun d ρ1 F1 H1 v g1 w1 i1 q1 => ?_)⟩
  exact q1 F1 H1 _ Gw.refl (Kp.set hb) (w1.putIm' i1)
/-- .. to a new list, which the slot owns -/
def sSetN (i : Nat) (f : En → Out (List D)) : En → SOut := fun ρ => (f ρ).st fun ds ρ => .nx (ρ.set i (some (.ol ds)))
theorem z_setN {i : Nat} {x : Str} {f : En → Out (List D)} (hN : X.N.Nodup) (hi : X.N[i]? = some x) (hx : Loc X.env.scope x) (h : PN X T W e f) (hs : swapsWith e (some (.Name x p)) pos.line X.env = pure false := by rfl)
    (hbs : bs.contains i = false := by rfl) (hf : X.fn x = true ∨ X.env.scope.names.lookup x = some .local := by first | exact .inl rfl | exact .inr rfl | assumption) : ZF X T W bs (.Assign [.Name x p] e pos) (sSetN i f) := by
  obtain ⟨t, ht, hp⟩ := h
  refine ⟨_, ps_set hN hi hx ht hs hf, fun B F H σ ρ E w q => hp B F H σ ρ _ w (PostS.ofX q fun ds ρ1 q1 F1 H1 a vs g1 hb hf1 w1 l1 => ?_)⟩
  refine q1 F1 H1 _ g1 (Kp.set hbs) ?_
  by_cases h : i < σ.length
  · exact w1.give hb hf1 l1 h
  · rw [List.set_eq_of_length_le (by omega), List.set_eq_of_length_le (by have := w1.l; omega)]
    exact w1.less (same_upd hb)
/-! ### targets: only the slots ts are touched -/
structure Only (ts : List Nat) (σ σ' : L2.St) : Prop where
  l : σ'.length = σ.length
  o : ∀ j, ts.contains j = false → σ'[j]? = σ[j]?
theorem Only.kp {ts bs : List Nat} {σ σ' : L2.St} (h : Only ts σ σ') (hd : (ts.all fun i => !bs.contains i) = true) : Kp bs σ σ' := fun i m => h.o i (by
  cases z : ts.contains i with
  | false => rfl
  | true =>
    have y := List.all_eq_true.mp hd i (by simpa using z)
    simp at y
    exact absurd m y)
structure GF (X : Cx) (T : Ct) (ts : List Nat) (tg : Expr) (g : D → En → Option En) : Prop where
  ex : ∃ t, PG X tg t ∧ ∀ (B F H : Hp) (σ : L2.St) (ρ ρ' : En) (v : V) (d : D) (Q : L2.St → Hp → Prop), Wd X.K T B F H σ ρ → Is X.K T F v d → g d ρ = some ρ' → (∀ σ', Only ts σ σ' → Wd X.K T B F H σ' ρ' → Q σ' H) → t v σ H Q
structure GFs (X : Cx) (T : Ct) (ts : List Nat) (tg : List Expr) (g : List D → En → Option En) : Prop where
  ex : ∃ t, PGs X tg t ∧ ∀ (B F H : Hp) (σ : L2.St) (ρ ρ' : En) (vs : List V) (ds : List D) (Q : L2.St → Hp → Prop), Wd X.K T B F H σ ρ → IsL X.K T F vs ds → g ds ρ = some ρ' → (∀ σ', Only ts σ σ' → Wd X.K T B F H σ' ρ' → Q σ' H) → t vs σ H Q
def gN (i : Nat) : D → En → Option En := fun d ρ => some (ρ.set i (some (.im d)))
theorem gf_name {i : Nat} {x : Str} (hN : X.N.Nodup) (hi : X.N[i]? = some x) (hx : Loc X.env.scope x) (hf : X.fn x = true ∨ X.env.scope.names.lookup x = some .local := by first | exact .inl rfl | exact .inr rfl | assumption) : GF X T [i] (.Name x p) (gN i) := by
  refine ⟨_, pg_name hN hi hx hf, fun B F H σ ρ ρ' v d Q w q e h => ?_⟩
  cases e
  exact h _ ⟨by simp, fun j hj => List.getElem?_set_ne (by rintro rfl; simp at hj)⟩ (w.putIm' q)
def gsN : List D → En → Option En := fun ds ρ => match ds with
  | [] => some ρ
  | _ => none
def gsC (g : D → En → Option En) (gs : List D → En → Option En) : List D → En → Option En := fun ds ρ => match ds with
  | [] => none
  | d :: ds => (g d ρ).bind (gs ds)
theorem gfs_nil : GFs X T [] [] gsN := by
  refine ⟨_, pgs_nil, fun B F H σ ρ ρ' vs ds Q w l e h => ?_⟩
  cases l with
  | nil => cases e; exact ⟨rfl, h σ ⟨rfl, fun _ _ => rfl⟩ w⟩
  | cons _ _ => cases e
theorem gfs_cons {t1 t2 : List Nat} {tg : Expr} {tgs : List Expr} {g : D → En → Option En} {gs : List D → En → Option En} (h1 : GF X T t1 tg g) (h2 : GFs X T t2 tgs gs) (hs : (assignEach (tg :: tgs) X.env).map (·.2) = assign tg X.env :: (assignEach tgs X.env).map (·.2) := by rfl) : GFs X T (t1 ++ t2) (tg :: tgs) (gsC g gs) := by
  obtain ⟨t, ht, hp⟩ := h1
  obtain ⟨u, hu, hq⟩ := h2
  refine ⟨_, pgs_cons ht hu hs, fun B F H σ ρ ρ' vs ds Q w l e h => ?_⟩
  cases l with
  | nil => cases e
  | cons i l =>
    obtain ⟨ρ1, e1, e2⟩ := Option.bind_eq_some_iff.mp e
    exact ⟨_, _, rfl, hp B F H σ ρ ρ1 _ _ _ w i e1 fun σ1 k1 w1 => hq B F H σ1 ρ1 ρ' _ _ Q w1 l e2 fun σ2 k2 w2 => h σ2 ⟨k2.l.trans k1.l, fun j hj => by
      simp only [List.contains_append, Bool.or_eq_false_iff] at hj
      exact (k2.o j hj.2).trans (k1.o j hj.1)⟩ w2⟩
def gT (n : Nat) (gs : List D → En → Option En) : D → En → Option En := fun d ρ => match d with
  | .tup ds => if decide (ds.length = n) then gs ds ρ else none
  | _ => none
theorem gf_tup {ts : List Nat} {tgs : List Expr} {k n : Nat} {gs : List D → En → Option En} (hc : X.calm = true) (h : GFs X T ts tgs gs) (hn : (assignEach tgs X.env).length = n := by rfl) (hst : (assignEach tgs X.env).findIdx? (·.1) = none := by rfl) : GF X T ts (.Tuple tgs k pos) (gT n gs) := by
  obtain ⟨t, ht, hp⟩ := h
  refine ⟨_, pg_tup hc ht hn hst, fun B F H σ ρ ρ' v d Q w i e h => ?_⟩
  unfold gT at e
  split at e
  · rename_i ds
    split at e
    · rename_i hl
      obtain ⟨a, vs, rfl, s, l⟩ := i.tupI
      exact ⟨a, vs, rfl, same_seq w.f s, by rw [l.length]; exact of_decide_eq_true hl, hp B F H σ ρ ρ' vs ds Q w l e h⟩
    · cases e
  · cases e
def sAsg (f : En → Out D) (g : D → En → Option En) : En → SOut := fun ρ => (f ρ).st fun d ρ => match g d ρ with
  | some ρ => .nx ρ
  | none => .er
theorem z_asg {ts : List Nat} {tg : Expr} {g : D → En → Option En} (h : PF X T W e f) (hg : GF X T ts tg g) (hd : (ts.all fun i => !bs.contains i) = true := by rfl) (hs : swapsWithSole [tg] e pos.line X.env = pure false := by rfl) (hw : swappedStores [tg] e X.env = pure none := by rfl)
    (h1 : (assignEach [tg] X.env).map (·.2) = [assign tg X.env] := by rfl) : ZF X T W bs (.Assign [tg] e pos) (sAsg f g) := by
  obtain ⟨t, ht, hp⟩ := h
  obtain ⟨u, hu, hq⟩ := hg
  refine ⟨_, ps_asg ht hu hs hw h1, fun B F H σ ρ E w q => hp B F H σ ρ _ w (PostS.ofP q fun d ρ1 F1 H1 v g1 w1 i1 q1 => ?_)⟩
  cases e' : g d ρ1 with
  | none => rw [e'] at q1; exact q1.elim
  | some ρ2 =>
    rw [e'] at q1
    exact hq B F1 H1 σ ρ1 ρ2 v d E.nx w1 i1 e' fun σ' k' w' => q1 F1 H1 σ' Gw.refl (k'.kp hd) w'
/-! ### while -/
def whL (c : En → Out Bool) (b : En → SOut) : Nat → En → SOut
  | 0, _ => .er
  | n + 1, ρ => (c ρ).st fun k ρ => match k with
    | true => (match b ρ with
      | .nx ρ => whL c b n ρ
      | .ct ρ => whL c b n ρ
      | .bk ρ => .nx ρ
      | r => r)
    | false => .nx ρ
theorem z_while {c : Expr} {body : List Stmt} {fc : En → Out Bool} (n : Nat) (hp : PassesOwn (model X.prog X.w) X.A X.env X.xe) (hc : TF X T W c fc) (hb : ZFs X T W bs body fs) : ZF X T W bs (.While c body [] pos) (whL fc fs n) := by
  obtain ⟨t, ht, hpc⟩ := hc
  obtain ⟨u, hu, hq⟩ := hb
  refine ⟨_, ps_while hp ht hu, fun B F H σ ρ E w q => ?_⟩
  refine ⟨fun m σ1 H1 => ∃ F1 ρ1, Wd X.K T B F1 H1 σ1 ρ1 ∧ PostS X.K T W bs B F1 σ1 (whL fc fs m ρ1) E, ⟨n, F, ρ, w, q⟩, fun m σ1 H1 ⟨F1, ρ1, w1, q1⟩ => ?_⟩
  cases m with
  | zero => exact q1.elim
  | succ m =>
    refine hpc B F1 H1 σ1 ρ1 _ w1 (PostS.ofP q1 fun d ρ2 F2 H2 b g2 w2 i2 q2 => ?_)
    cases i2
    cases d with
    | true =>
      rw [if_pos rfl]
      refine ⟨fun σ' H' => ∃ F1 ρ1, Wd X.K T B F1 H' σ' ρ1 ∧ PostS X.K T W bs B F1 σ' (whL fc fs m ρ1) E, fun σ' H' h => ⟨m, Nat.lt_succ_self m, h⟩, hq B F2 H2 σ1 ρ2 _ w2 ?_⟩
      dsimp only at q2
      revert q2
      cases fs ρ2 with
      | nx ρ3 => exact fun q2 F3 H3 σ3 g3 k3 w3 => ⟨F3, ρ3, w3, q2.gw g3 k3⟩
      | ct ρ3 => exact fun q2 F3 H3 σ3 g3 k3 w3 => ⟨F3, ρ3, w3, q2.gw g3 k3⟩
      | bk ρ3 => exact id
      | rt d ρ3 => exact id
      | ex x ρ3 => exact id
      | er => exact id
    | false =>
      rw [if_neg Bool.false_ne_true]
      exact q2 F2 H2 σ1 Gw.refl Kp.refl w2
end
end Ce
namespace Ce
open PySem PySem.Spec PyProof.Rows L2 Ce

/-! ### what a loop walks -/
/-- an item comes: the i-th of ds -/
def Came (K : PySem.W.Frag) (T : Ct) (F : Hp) (ds : List D) (Y : Nat → Hp → V → Hp → Prop) : Prop :=
  ∀ i H x H1, i < ds.length → Y i H x H1 → ∀ (B F2 : Hp) (σ : L2.St) (ρ : En), Same F F2 → Wd K T B F2 H σ ρ → ∃ F3 d, ds[i]? = some d ∧ Gw B F2 F3 ∧ Wd K T B F3 H1 σ ρ ∧ Is K T F3 x d
def goodI (K : PySem.W.Frag) (T : Ct) (B F : Hp) (σ : L2.St) (R : It → Hp → Prop) (ds : List D) (ρ : En) : Prop :=
  ∀ F' H' J G Y, Gw B F F' → Wd K T B F' H' σ ρ → Walk J ds.length G Y → (∀ H2, Same F' H2 → G H2) → Came K T F' ds Y → R J H'
structure IF (X : Cx) (T : Ct) (W : WX) (tg iter : Expr) (f : En → Out (List D)) : Prop where
  ex : ∃ wi, PI X tg iter wi ∧ ∀ (B F H : Hp) (σ : L2.St) (ρ : En) (R : It → Hp → Prop), Wd X.K T B F H σ ρ → PostX X.K T W B F σ (goodI X.K T B F σ R) (f ρ) → wi σ H R
section
variable {K : PySem.W.Frag} {T : Ct} {F : Hp}
theorem came_at {vs : List V} {ds : List D} (l : IsL K T F vs ds) : Came K T F ds (YAt vs) := fun i H x H1 _ ⟨e, y⟩ B F2 σ ρ s w => by
  obtain ⟨d, ed, i⟩ := l.getV y
  subst e
  exact ⟨F2, d, ed, Gw.refl, w, i.mono s⟩
end
section
variable {X : Cx} {T : Ct} {W : WX} {tg e a b c : Expr} {f : En → Out D} {pos p p2 : Pos}
/-- over a list, a tuple -/
def itL (f : En → Out D) : En → Out (List D) := fun ρ => (f ρ).bind fun d ρ => match d with
  | .lst ds => .ok ds ρ
  | _ => .er
def itT (f : En → Out D) : En → Out (List D) := fun ρ => (f ρ).bind fun d ρ => match d with
  | .tup ds => .ok ds ρ
  | _ => .er
theorem if_list (h : PF X T W e f) : IF X T W tg e (itL f) := by
  obtain ⟨t, ht, hp⟩ := h
  refine ⟨_, pi_list ht, fun B F H σ ρ R w q => hp B F H σ ρ _ w ((PostX.bind q).imp fun d ρ1 z0 q1 F1 H1 v g1 w1 i1 => ?_)⟩
  clear z0
  cases d <;> try exact q1.elim
  rename_i ds
  obtain ⟨a', vs, rfl, s, l⟩ := i1.lstI
  exact ⟨a', rfl, ⟨vs, w1.f.seq s⟩, q1 F1 H1 _ _ _ g1 w1 (l.length ▸ walk_list) (fun H2 f2 => f2.seq s) (came_at l)⟩
theorem if_tup (h : PF X T W e f) : IF X T W tg e (itT f) := by
  obtain ⟨t, ht, hp⟩ := h
  refine ⟨_, pi_tup ht, fun B F H σ ρ R w q => hp B F H σ ρ _ w ((PostX.bind q).imp fun d ρ1 z0 q1 F1 H1 v g1 w1 i1 => ?_)⟩
  clear z0
  cases d <;> try exact q1.elim
  rename_i ds
  obtain ⟨a', vs, rfl, s, l⟩ := i1.tupI
  exact ⟨a', rfl, ⟨vs, same_seq w1.f s⟩, q1 F1 H1 _ _ _ g1 w1 (l.length ▸ walk_tup) (fun H2 f2 => same_seq f2 s) (came_at l)⟩
/-- over a list or a tuple -/
theorem pi_both {l : Expr} {tl : TE} (hl : PE X l tl) : PI X tg l (fun σ H R => tl σ H fun x H1 => ∃ a, x = .ref a ∧ (((∃ xs, SqL X.K H1 a xs) ∧ R (Itl X.K a) H1) ∨ ((∃ xs, SqT X.K H1 a xs) ∧ R (Itt X.K a) H1))) := by
  refine ⟨fun pins s σ H R I h => ?_⟩
  refine thn (hl.run pins s σ H _ I h) fun v s1 ⟨x, H1, I1, r1, q1⟩ => ?_
  obtain ⟨a, rfl, ⟨⟨xs, hq⟩, q⟩ | ⟨⟨xs, hq⟩, q⟩⟩ := q1
  · cases r1
    obtain ⟨its, rv, pl, hz⟩ := I1.list hq
    exact wpAny_pyIter_list pl.isList (pi_one (tk := s1.toks) I1 _ (turn_list a _) ⟨_, Heap.get?_push_size _ rfl, rfl, rfl⟩ q)
  · cases r1
    obtain ⟨its, rv, pl, hz⟩ := I1.tuple hq
    exact wpAny_pyIter_tuple (show s1.heap.IsTuple a its.toArray from pl) (pi_one (tk := s1.toks) I1 _ (turn_tuple a _) ⟨_, Heap.get?_push_size _ rfl, rfl, rfl⟩ q)
def itA (f : En → Out D) : En → Out (List D) := fun ρ => (f ρ).bind fun d ρ => match d with
  | .lst ds => .ok ds ρ
  | .tup ds => .ok ds ρ
  | _ => .er
theorem if_any (h : PF X T W e f) : IF X T W tg e (itA f) := by
  obtain ⟨t, ht, hp⟩ := h
  refine ⟨_, pi_both ht, fun B F H σ ρ R w q => hp B F H σ ρ _ w ((PostX.bind q).imp fun d ρ1 _ q1 F1 H1 v g1 w1 i1 => ?_)⟩
  cases d <;> try exact q1.elim
  · rename_i ds
    obtain ⟨a', vs, rfl, s, l⟩ := i1.lstI
    exact ⟨a', rfl, .inl ⟨⟨vs, w1.f.seq s⟩, q1 F1 H1 _ _ _ g1 w1 (l.length ▸ walk_list) (fun H2 f2 => f2.seq s) (came_at l)⟩⟩
  · rename_i ds
    obtain ⟨a', vs, rfl, s, l⟩ := i1.tupI
    exact ⟨a', rfl, .inr ⟨⟨vs, same_seq w1.f s⟩, q1 F1 H1 _ _ _ g1 w1 (l.length ▸ walk_tup) (fun H2 f2 => same_seq f2 s) (came_at l)⟩⟩
/-- ranges -/
def rngD (lo c : Int) (n : Nat) : List D := (List.range n).map fun (i : Nat) => D.int (lo + (i : Int) * c)
def inR (i : Int) : Bool := decide (-(2 ^ 62) ≤ i) && decide (i < 2 ^ 62)
theorem rngD_get {lo c : Int} {n i : Nat} (h : i < n) : (rngD lo c n)[i]? = some (.int (lo + (i : Int) * c)) := by
  unfold rngD
  rw [List.getElem?_map, List.getElem?_range h]
  rfl
theorem rngD_len {lo c : Int} {n : Nat} : (rngD lo c n).length = n := by simp [rngD]
def itR1 (g : En → Out (List D)) : En → Out (List D) := fun ρ => (g ρ).bind fun ds ρ => match ds with
  | [.int j] => if inR j then .ok (rngD 0 1 j.toNat) ρ else .er
  | _ => .er
def itR2 (g : En → Out (List D)) : En → Out (List D) := fun ρ => (g ρ).bind fun ds ρ => match ds with
  | [.int i, .int j] => if inR i && inR j then .ok (rngD i 1 (j - i).toNat) ρ else .er
  | _ => .er
/-- range(i, j, -1) -/
def itR3 (g : En → Out (List D)) : En → Out (List D) := fun ρ => (g ρ).bind fun ds ρ => match ds with
  | [.int i, .int j, .int (-1)] => if inR i && inR j then .ok (rngD i (-1) (i - j).toNat) ρ else .er
  | _ => .er
theorem inR_ok {i : Int} (h : inR i = true) : -(2 ^ 62) ≤ i ∧ i < 2 ^ 62 := by
  unfold inR at h
  rw [Bool.and_eq_true] at h
  exact ⟨of_decide_eq_true h.1, of_decide_eq_true h.2⟩
theorem came_fn {K : PySem.W.Frag} {T : Ct} {F : Hp} {g : Nat → V} {ds : List D} (h : ∀ i, i < ds.length → ∀ F2, ∃ d, ds[i]? = some d ∧ Is K T F2 (g i) d) : Came K T F ds (YFn g) := fun i H x H1 hi ⟨e, y⟩ B F2 σ ρ s w => by
  subst e y
  obtain ⟨d, ed, i⟩ := h i hi F2
  exact ⟨F2, d, ed, Gw.refl, w, i⟩
theorem if_range1 {g : En → Out (List D)} (hg : Gl X "range") (hm : X.mg "range" = none) (ha : AF X T W [a] g) (hs : starEach [a] X.env = [(false, eval a X.env)] := by rfl) : IF X T W tg (.Call (.Name "range" p) [a] [] pos) (itR1 g) := by
  obtain ⟨t, ht, hp⟩ := ha
  refine ⟨_, pi_range1 hg hm ht hs, fun B F H σ ρ R w q => hp B F H σ ρ _ w ((PostX.bind q).imp fun ds ρ1 z0 q1 F1 H1 vs g1 w1 l1 => ?_)⟩
  clear z0
  split at q1
  · rename_i j
    obtain ⟨v, rfl, i⟩ := l1.one
    split at q1
    · rename_i hj
      obtain ⟨h1, h2⟩ := inR_ok hj
      refine ⟨j, by rw [i.intI], h1, h2, q1 F1 H1 _ _ _ g1 w1 (by rw [rngD_len]; exact walk_range) (fun _ _ => trivial) (came_fn fun i hi F2 => ⟨_, rngD_get (by simpa [rngD_len] using hi), ?_⟩)⟩
      rw [Int.mul_one]
      exact .int _
    · exact q1.elim
  · exact q1.elim
theorem if_range2 {g : En → Out (List D)} (hg : Gl X "range") (hm : X.mg "range" = none) (ha : AF X T W [a, b] g) (hs : starEach [a, b] X.env = [(false, eval a X.env), (false, eval b X.env)] := by rfl) (hs2 : starEach [b] X.env = [(false, eval b X.env)] := by rfl) :
    IF X T W tg (.Call (.Name "range" p) [a, b] [] pos) (itR2 g) := by
  obtain ⟨t, ht, hp⟩ := ha
  refine ⟨_, pi_range2 hg hm ht hs hs2, fun B F H σ ρ R w q => hp B F H σ ρ _ w ((PostX.bind q).imp fun ds ρ1 z0 q1 F1 H1 vs g1 w1 l1 => ?_)⟩
  clear z0
  split at q1
  · rename_i k j
    obtain ⟨v, u, rfl, i, i'⟩ := l1.two
    split at q1
    · rename_i hj
      rw [Bool.and_eq_true] at hj
      obtain ⟨h1, h2⟩ := inR_ok hj.1
      obtain ⟨h3, h4⟩ := inR_ok hj.2
      refine ⟨k, j, by rw [i.intI, i'.intI], ⟨h1, h2, h3, h4⟩, q1 F1 H1 _ _ _ g1 w1 (by rw [rngD_len]; exact walk_range) (fun _ _ => trivial) (came_fn fun i hi F2 => ⟨_, rngD_get (by simpa [rngD_len] using hi), ?_⟩)⟩
      rw [Int.mul_one]
      exact .int _
    · exact q1.elim
  · exact q1.elim
theorem if_range3 {g : En → Out (List D)} (hg : Gl X "range") (hm : X.mg "range" = none) (ha : AF X T W [a, b, c] g) (hs : starEach [a, b, c] X.env = (false, eval a X.env) :: starEach [b, c] X.env := by rfl) (hpl : (backTo pos (starEach [b, c] X.env)).any (·.1) = false := by rfl) :
    IF X T W tg (.Call (.Name "range" p) [a, b, c] [] pos) (itR3 g) := by
  obtain ⟨t, ht, hp⟩ := ha
  refine ⟨_, pi_range3 hg hm ht hs hpl, fun B F H σ ρ R w q => hp B F H σ ρ _ w ((PostX.bind q).imp fun ds ρ1 z0 q1 F1 H1 vs g1 w1 l1 => ?_)⟩
  clear z0
  split at q1
  · rename_i k j
    cases l1 with
    | cons i0 l1 =>
      obtain ⟨v, u, rfl, i, i'⟩ := l1.two
      split at q1
      · rename_i hj
        rw [Bool.and_eq_true] at hj
        obtain ⟨h1, h2⟩ := inR_ok hj.1
        obtain ⟨h3, h4⟩ := inR_ok hj.2
        refine ⟨k, j, -1, (k - j).toNat, by rw [i0.intI, i.intI, i'.intI], RgC.neg h1 h2 h3 h4, q1 F1 H1 _ _ _ g1 w1 (by rw [rngD_len]; exact walk_rangeC) (fun _ _ => trivial) (came_fn fun i hi F2 => ⟨_, rngD_get (by simpa [rngD_len] using hi), .int _⟩)⟩
      · exact q1.elim
  · exact q1.elim
/-- reversed -/
def itRev (f : En → Out D) : En → Out (List D) := fun ρ => (f ρ).bind fun d ρ => match d with
  | .lst ds => .ok ds.reverse ρ
  | .tup ds => .ok ds.reverse ρ
  | _ => .er
theorem walk_revT {K : PySem.W.Frag} {a : Addr} {xs : List V} : Walk (RT.ItvT K a xs.length) xs.length (fun H => SqT K H a xs) (fun i H x H' => H' = H ∧ xs[xs.length - 1 - i]? = some x) :=
  ⟨fun i _ hi q => ⟨hi, xs, xs[xs.length - 1 - i]'(by omega), q, by simp [show xs.length - 1 - i < xs.length by omega]⟩, fun _ _ => Nat.le_refl _, fun _ _ _ _ _ q y => ⟨y.1, y.2 xs q⟩⟩
theorem came_rev {K : PySem.W.Frag} {T : Ct} {F : Hp} {vs : List V} {ds : List D} (l : IsL K T F vs ds) : Came K T F ds.reverse (fun i H x H' => H' = H ∧ vs[vs.length - 1 - i]? = some x) := fun i H x H1 hi ⟨e, y⟩ B F2 σ ρ s w => by
  obtain ⟨d, ed, i⟩ := l.getV y
  subst e
  exact ⟨F2, d, by rw [List.getElem?_reverse (by simpa using hi), ← l.length]; exact ed, Gw.refl, w, i.mono s⟩
theorem if_rev (hg : Gl X "reversed") (hm : X.mg "reversed" = none) (h : PF X T W e f) (hs : starEach [e] X.env = (false, eval e X.env) :: starEach [] X.env := by rfl) : IF X T W tg (.Call (.Name "reversed" p) [e] [] pos) (itRev f) := by
  obtain ⟨t, ht, hp⟩ := h
  refine ⟨_, RT.pi_revA hg hm ht hs, fun B F H σ ρ R w q => hp B F H σ ρ _ w ((PostX.bind q).imp fun d ρ1 z0 q1 F1 H1 v g1 w1 i1 => ?_)⟩
  clear z0
  cases d <;> try exact q1.elim
  · rename_i ds
    obtain ⟨a', vs, rfl, s, l⟩ := i1.lstI
    refine ⟨a', vs, rfl, .inl ⟨w1.f.seq s, q1 F1 H1 _ (fun H => SqL X.K H a' vs) (fun i H x H' => H' = H ∧ vs[vs.length - 1 - i]? = some x) g1 w1 ?_ (fun H2 f2 => f2.seq s) (came_rev l)⟩⟩
    rw [List.length_reverse, ← l.length]
    exact walk_rev
  · rename_i ds
    obtain ⟨a', vs, rfl, s, l⟩ := i1.tupI
    refine ⟨a', vs, rfl, .inr ⟨same_seq w1.f s, q1 F1 H1 _ (fun H => SqT X.K H a' vs) (fun i H x H' => H' = H ∧ vs[vs.length - 1 - i]? = some x) g1 w1 ?_ (fun H2 f2 => same_seq f2 s) (came_rev l)⟩⟩
    rw [List.length_reverse, ← l.length]
    exact walk_revT
/-- texts -/
def itS (f : En → Out D) : En → Out (List D) := fun ρ => (f ρ).bind fun d ρ => match d with
  | .str s => .ok (s.cps.toList.map fun c => .str ⟨#[c]⟩) ρ
  | _ => .er
theorem if_str (h : PF X T W e f) : IF X T W tg e (itS f) := by
  obtain ⟨t, ht, hp⟩ := h
  refine ⟨_, pi_str ht, fun B F H σ ρ R w q => hp B F H σ ρ _ w ((PostX.bind q).imp fun d ρ1 z0 q1 F1 H1 v g1 w1 i1 => ?_)⟩
  clear z0
  cases d <;> try exact q1.elim
  rename_i s
  refine ⟨s, i1.strI, q1 F1 H1 _ (fun _ => True) (fun i H v H' => H' = H ∧ ∃ c, s.cps[i]? = some c ∧ v = .str ⟨#[c]⟩) g1 w1 (by simpa using walk_str) (fun _ _ => trivial) fun i H x H1 hi ⟨e, c, ec, ev⟩ B F2 σ ρ s w => ?_⟩
  subst e ev
  exact ⟨F2, .str ⟨#[c]⟩, by simpa using ec, Gw.refl, w, .str _⟩
/-- new pairs -/
theorem came_pair {K : PySem.W.Frag} {T : Ct} {F : Hp} {xs ys : Nat → Option V} {ds : List D} (h : ∀ i x y, xs i = some x → ys i = some y → ∃ d d', ds[i]? = some (.tup [d, d']) ∧ Is K T F x d ∧ Is K T F y d') : Came K T F ds (YPair xs ys) := fun i H v H1 hi ⟨p, x, y, ev, hp, e, hx, hy⟩ B F2 σ ρ s w => by
  obtain ⟨d, d', ed, i1, i2⟩ := h i x y hx hy
  subst ev e
  obtain ⟨g, w2⟩ := w.new (u := .tup [x, y]) hp
  exact ⟨_, _, ed, g, w2, .tup (.inl (.inl upd_same)) (.cons ((i1.mono s).mono g.s) (.cons ((i2.mono s).mono g.s) .nil))⟩
def itEn (g : En → Out (List D)) : En → Out (List D) := fun ρ => (g ρ).bind fun ds ρ => match ds with
  | [.lst ds] => .ok (ds.mapIdx fun i d => .tup [.int i, d]) ρ
  | _ => .er
theorem if_enum {g : En → Out (List D)} {elts : List Expr} {kk : Nat} {tpos : Pos} (hg : Gl X "enumerate") (hm : X.mg "enumerate" = none) (ha : AF X T W [e] g) (hs : starEach [e] X.env = [(false, eval e X.env)] := by rfl) : IF X T W (.Tuple elts kk tpos) (.Call (.Name "enumerate" p) [e] [] pos) (itEn g) := by
  obtain ⟨t, ht, hp⟩ := ha
  refine ⟨_, pi_enum hg hm ht hs, fun B F H σ ρ R w q => hp B F H σ ρ _ w ((PostX.bind q).imp fun ds ρ1 z0 q1 F1 H1 vs g1 w1 l1 => ?_)⟩
  clear z0
  split at q1
  · rename_i ds
    obtain ⟨v, rfl, i⟩ := l1.one
    obtain ⟨a', vs, rfl, s, l⟩ := i.lstI
    refine ⟨a', vs, rfl, w1.f.seq s, q1 F1 H1 _ _ _ g1 w1 (by rw [List.length_mapIdx, ← l.length]; exact walk_enum) (fun H2 f2 => f2.seq s) (came_pair fun i x y hx hy => ?_)⟩
    cases hx
    obtain ⟨d, ed, iy⟩ := l.getV hy
    exact ⟨_, d, by rw [List.getElem?_mapIdx, ed]; rfl, .int _, iy⟩
  · exact q1.elim
def itZp (g : En → Out (List D)) : En → Out (List D) := fun ρ => (g ρ).bind fun ds ρ => match ds with
  | [.lst xs, .lst ys] => .ok (List.zipWith (fun x y => .tup [x, y]) xs ys) ρ
  | _ => .er
theorem if_zip {g : En → Out (List D)} {e2 : Expr} {elts : List Expr} {kk : Nat} {tpos : Pos} (hg : Gl X "zip") (hm : X.mg "zip" = none) (ha : AF X T W [e, e2] g) (hs : starEach [e, e2] X.env = (false, eval e X.env) :: starEach [e2] X.env := by rfl) (hpl : (backTo pos (starEach [e2] X.env)).any (·.1) = false := by rfl) :
    IF X T W (.Tuple elts kk tpos) (.Call (.Name "zip" p) [e, e2] [] pos) (itZp g) := by
  obtain ⟨t, ht, hp⟩ := ha
  refine ⟨_, pi_zip hg hm ht hs hpl, fun B F H σ ρ R w q => hp B F H σ ρ _ w ((PostX.bind q).imp fun ds ρ1 z0 q1 F1 H1 vs g1 w1 l1 => ?_)⟩
  clear z0
  split at q1
  · rename_i xs ys
    obtain ⟨v, u, rfl, i, i'⟩ := l1.two
    obtain ⟨a', vs, rfl, s, l⟩ := i.lstI
    obtain ⟨b', us, rfl, s', l'⟩ := i'.lstI
    refine ⟨a', b', vs, us, rfl, w1.f.seq s, w1.f.seq s', q1 F1 H1 _ _ _ g1 w1 (walk_zip (by rw [List.length_zipWith, ← l.length, ← l'.length])) (fun H2 f2 => ⟨f2.seq s, f2.seq s'⟩) (came_pair fun i x y hx hy => ?_)⟩
    obtain ⟨d, ed, ix⟩ := l.getV hx
    obtain ⟨d', ed', iy⟩ := l'.getV hy
    exact ⟨d, d', by rw [List.getElem?_zipWith, ed, ed'], ix, iy⟩
  · exact q1.elim
end

/-! ### for -/
def forL (g : D → En → Option En) (b : En → SOut) : List D → En → SOut
  | [], ρ => .nx ρ
  | d :: ds, ρ => match g d ρ with
    | none => .er
    | some ρ => (match b ρ with
      | .nx ρ => forL g b ds ρ
      | .ct ρ => forL g b ds ρ
      | .bk ρ => .nx ρ
      | r => r)
def sFor (f : En → Out (List D)) (g : D → En → Option En) (b : En → SOut) : En → SOut := fun ρ => (f ρ).st fun ds ρ => forL g b ds ρ
section
variable {X : Cx} {T : Ct} {W : WX} {bs ts : List Nat} {tg iter : Expr} {body : List Stmt} {f : En → Out (List D)} {g : D → En → Option En} {fb : En → SOut} {pos : Pos}
theorem z_for (hp : PassesOwn (model X.prog X.w) X.A X.env X.xe) (hc : X.calm = true) (hi : IF X T W tg iter f) (hg : GF X T ts tg g) (hb : ZFs X T W bs body fb) (hd : (ts.all fun i => !bs.contains i) = true := by rfl)
    (hs : ∀ x, foldedSetIterable iter X.env x = pure x := by intro _; rfl) : ZF X T W bs (.For tg iter body [] pos) (sFor f g fb) := by
  obtain ⟨wi, hwi, hpi⟩ := hi
  obtain ⟨tg', htg, hpg⟩ := hg
  obtain ⟨tb, htb, hpb⟩ := hb
  refine ⟨_, ps_for hp hc hwi htg htb hs, fun B F H σ ρ E w q => ?_⟩
  refine hpi B F H σ ρ _ w (PostS.ofX q fun ds ρ1 q1 F1 H1 J G Y g1 w1 wk hG cm => ?_)
  refine for_it wk (fun i σ' H' => ∃ F2 ρ2, Same F1 F2 ∧ Gw B F F2 ∧ Wd X.K T B F2 H' σ' ρ2 ∧ PostS X.K T W bs B F2 σ' (forL g fb (ds.drop i) ρ2) E) ⟨F1, ρ1, Same.refl F1, g1, w1, by simpa using q1.gw g1 Kp.refl⟩
    (fun i σ' H' _ ⟨F2, ρ2, s2, _, w2, _⟩ => hG H' (s2.trans w2.f)) (fun i x σ' H2 H3 hi ⟨F2, ρ2, s2, g2, w2, q2⟩ y => ?_) fun σ' H' ⟨F2, ρ2, s2, g2, w2, q2⟩ => ?_
  · obtain ⟨F3, d, ed, g3, w3, ix⟩ := cm i H2 x H3 hi y B F2 σ' ρ2 s2 w2
    obtain ⟨hl, rfl⟩ := List.getElem?_eq_some_iff.mp ed
    rw [List.drop_eq_getElem_cons hl, forL] at q2
    cases e' : g ds[i] ρ2 with
    | none => rw [e'] at q2; exact q2.elim
    | some ρ3 =>
      rw [e'] at q2
      dsimp only at q2
      refine hpg B F3 H3 σ' ρ2 ρ3 x _ _ w3 ix e' fun σ4 k4 w4 => hpb B F3 H3 σ4 ρ3 _ w4 ?_
      have q3 := PostS.gw q2 g3 (k4.kp hd)
      revert q3
      cases fb ρ3 with
      | nx ρ4 => exact fun q3 F5 H5 σ5 g5 k5 w5 => ⟨F5, ρ4, s2.trans (g3.s.trans g5.s), g2.trans (g3.trans g5), w5, q3.gw g5 k5⟩
      | ct ρ4 => exact fun q3 F5 H5 σ5 g5 k5 w5 => ⟨F5, ρ4, s2.trans (g3.s.trans g5.s), g2.trans (g3.trans g5), w5, q3.gw g5 k5⟩
      | bk ρ4 => exact id
      | rt d ρ4 => exact id
      | ex x ρ4 => exact id
      | er => exact id
  · rw [List.drop_length, forL] at q2
    exact q2 F2 H' σ' Gw.refl Kp.refl w2
end
end Ce
namespace Ce
open PySem PySem.Spec PyProof.Rows L2 Ce

/-! ### the widest readings -/
def tPF (K : PySem.W.Frag) (T : Ct) (W : WX) (f : En → Out D) : TE := fun σ H Q => ∃ B F ρ, Wd K T B F H σ ρ ∧ Post K T W B F σ (Is K T) (f ρ) Q
def tTF (K : PySem.W.Frag) (T : Ct) (W : WX) (f : En → Out Bool) : TT := fun σ H Q => ∃ B F ρ, Wd K T B F H σ ρ ∧ Post K T W B F σ RB (f ρ) Q
def tGF (K : PySem.W.Frag) (T : Ct) (ts : List Nat) (g : D → En → Option En) : TG := fun v σ H Q => ∃ B F ρ ρ' d, Wd K T B F H σ ρ ∧ Is K T F v d ∧ g d ρ = some ρ' ∧ ∀ σ', Only ts σ σ' → Wd K T B F H σ' ρ' → Q σ' H
section
variable {X : Cx} {T : Ct} {W : WX} {e : Expr}
theorem PF.pe {f : En → Out D} (h : PF X T W e f) : PE X e (tPF X.K T W f) := by
  obtain ⟨t, ht, hp⟩ := h
  exact ⟨fun pins s σ H Q I ⟨B, F, ρ, w, q⟩ => ht.run pins s σ H Q I (hp B F H σ ρ Q w q)⟩
theorem TF.pt {f : En → Out Bool} (h : TF X T W e f) : PT X e (tTF X.K T W f) := by
  obtain ⟨t, ht, hp⟩ := h
  exact ⟨fun pins s σ H Q I ⟨B, F, ρ, w, q⟩ => ht.run pins s σ H Q I (hp B F H σ ρ Q w q)⟩
theorem GF.pg {ts : List Nat} {g : D → En → Option En} (h : GF X T ts e g) : PG X e (tGF X.K T ts g) := by
  obtain ⟨t, ht, hp⟩ := h
  exact ⟨fun pins s σ H v u Q I r ⟨B, F, ρ, ρ', d, w, i, e, q⟩ => ht.run pins s σ H v u Q I r (hp B F H σ ρ ρ' v d Q w i e q)⟩
end

/-! ### slots of a block -/
def wipeE (ρ : En) : List Nat → En
  | [] => ρ
  | v :: vs => (wipeE ρ vs).set v none
def restE (ρ1 : En) : List Nat → En → En
  | [], ρ => ρ
  | v :: vs, ρ => match ρ1[v]? with
    | some (some (.im d)) => (restE ρ1 vs ρ).set v (some (.im d))
    | _ => restE ρ1 vs ρ
section
variable {K : PySem.W.Frag} {T : Ct} {B F F1 H H1 : Hp} {σ σ' : L2.St} {ρ ρ1 : En}
theorem Wd.wipe (w : Wd K T B F H σ ρ) : ∀ vs : List Nat, Wd K T B F H (L2.wipe σ vs) (wipeE ρ vs)
  | [] => w
  | v :: vs => (Wd.wipe w vs).drop v none
/-- other slots, where nothing is said -/
theorem Wd.swap (w : Wd K T B F H σ ρ) (hl : σ'.length = σ.length) (h : ∀ (i : Nat) (o : O), ρ[i]? = some (some o) → σ'[i]? = σ[i]?) : Wd K T B F H σ' ρ := by
  obtain ⟨φ, h1, h2, h3⟩ := w.o
  exact ⟨w.b, w.f, hl.trans w.l, φ, fun i o e => by
    obtain ⟨v, ev, q⟩ := h1 i o e
    exact ⟨v, (h i o e).trans ev, q⟩, h2, h3⟩
theorem wipeE_none {vs : List Nat} {i : Nat} {o : O} (h : (wipeE ρ vs)[i]? = some (some o)) : i ∉ vs := by
  induction vs with
  | nil => simp
  | cons v vs ih =>
    unfold wipeE at h
    by_cases z : v = i
    · subst z
      by_cases hl : v < (wipeE ρ vs).length
      · rw [List.getElem?_set_self hl] at h; cases h
      · rw [List.getElem?_eq_none (by simpa using hl)] at h; cases h
    · rw [List.getElem?_set_ne z] at h
      have k := ih h
      simp
      exact ⟨fun q => z q.symm, k⟩
theorem wipe_other {vs : List Nat} {i : Nat} (h : i ∉ vs) : (L2.wipe σ vs)[i]? = σ[i]? := by
  induction vs with
  | nil => rfl
  | cons v vs ih =>
    simp at h
    unfold L2.wipe
    rw [List.getElem?_set_ne (fun q => h.1 q.symm)]
    exact ih h.2
theorem wipe_in {vs : List Nat} {i : Nat} (h : i ∈ vs) (hl : i < σ.length) : (L2.wipe σ vs)[i]? = some none := by
  induction vs with
  | nil => cases h
  | cons v vs ih =>
    unfold L2.wipe
    by_cases z : v = i
    · subst z
      rw [List.getElem?_set_self (by rw [wipe_length]; exact hl)]
    · rw [List.getElem?_set_ne z]
      simp at h
      exact ih (h.resolve_left fun q => z q.symm)
theorem wipe_eq {vs ts : List Nat} (ho : Only ts (L2.wipe σ vs) σ') (hs : (ts.all fun i => vs.contains i) = true) : L2.wipe σ' vs = L2.wipe σ vs := by
  have hl : σ'.length = σ.length := ho.l.trans (wipe_length σ vs)
  apply List.ext_getElem?
  intro i
  by_cases hi : i ∈ vs
  · by_cases h : i < σ.length
    · rw [wipe_in hi h, wipe_in hi (by omega)]
    · rw [List.getElem?_eq_none (by rw [wipe_length]; omega), List.getElem?_eq_none (by rw [wipe_length]; omega)]
  · rw [wipe_other hi]
    have z : ts.contains i = false := by
      cases q : ts.contains i with
      | false => rfl
      | true =>
        have y := List.all_eq_true.mp hs i (by simpa using q)
        exact absurd (by simpa using y) hi
    exact ho.o i z
theorem Wd.unwipe {vs : List Nat} (w : Wd K T B F H (L2.wipe σ vs) (wipeE ρ vs)) : Wd K T B F H σ (wipeE ρ vs) :=
  w.swap (wipe_length σ vs).symm fun i o e => (wipe_other (wipeE_none e)).symm
theorem Wd.reIm {v : V} {d : D} {i : Nat} (w : Wd K T B F H σ ρ) (e : σ[i]? = some (some v)) (q : Is K T F v d) : Wd K T B F H σ (ρ.set i (some (.im d))) := by
  have z := w.putIm' (i := i) q
  have y : σ.set i (some v) = σ := by
    apply List.ext_getElem?
    intro j
    by_cases h : i = j
    · subst h
      rw [List.getElem?_set_self (List.getElem?_eq_some_iff.mp e).1, e]
    · rw [List.getElem?_set_ne h]
  rw [y] at z
  exact z
theorem Wd.rest (w1 : Wd K T B F1 H1 σ ρ1) (s : Same F1 F) : ∀ (vs : List Nat) {B' : Hp} {ρ : En}, Wd K T B' F H σ ρ → Wd K T B' F H σ (restE ρ1 vs ρ)
  | [], _, _, w => w
  | v :: vs, _, _, w => by
    unfold restE
    split
    · rename_i d e
      obtain ⟨x, ex, ix⟩ := w1.get e
      exact (Wd.rest w1 s vs w).reIm ex (ix.mono s)
    · exact Wd.rest w1 s vs w
/-- what stands at an own object is exchanged -/
theorem Wd.over {a : Addr} {u u' : HO} (w : Wd K T (upd B a u) F H σ ρ) (hf : F a = none) : Wd K T (upd B a u') F (upd H a u') σ ρ := by
  obtain ⟨φ, h1, h2, h3⟩ := w.o
  have na : ∀ i b, b ∈ φ i → b ≠ a := fun i b m z => by
    have q := (h3 i b m).2.2
    rw [z, upd_same] at q
    cases q
  refine ⟨fun b o e => ?_, fun b o e => ?_, w.l, φ, fun i o e => ?_, h2, fun i b m => ?_⟩
  · by_cases z : b = a
    · subst z; rw [upd_same] at e ⊢; exact e
    · rw [upd_ne z] at e ⊢; exact w.b b o (by rw [upd_ne z]; exact e)
  · have z : b ≠ a := fun z => by subst z; rw [hf] at e; cases e
    rw [upd_ne z]; exact w.f b o e
  · obtain ⟨v, ev, q⟩ := h1 i o e
    exact ⟨v, ev, q.mono (Same.refl F) fun b m u e => by rw [upd_ne (na i b m)]; exact e⟩
  · obtain ⟨x, y, z⟩ := h3 i b m
    refine ⟨x, y, ?_⟩
    rw [upd_ne (na i b m)] at z ⊢
    exact z
end

/-! ### list comprehensions -/
def lcL (g : D → En → Option En) (ft : En → Out Bool) (fe : En → Out D) (vs : List Nat) : List D → List D → En → Out (List D)
  | [], acc, ρ => .ok acc ρ
  | d :: ds, acc, ρ => match g d ρ with
    | none => .er
    | some ρ => (match ft ρ with
      | .ok true ρ => (match fe ρ with
        | .ok y ρ => if decide (acc.length < sizeLine) then lcL g ft fe vs ds (acc ++ [y]) (wipeE ρ vs) else .er
        | _ => .er)
      | .ok false ρ => lcL g ft fe vs ds acc (wipeE ρ vs)
      | _ => .er)
def nLc (f : En → Out (List D)) (g : D → En → Option En) (ft : En → Out Bool) (fe : En → Out D) (vs : List Nat) : En → Out (List D) := fun ρ => (f ρ).bind fun ds ρ1 => match lcL g ft fe vs ds [] (wipeE ρ1 vs) with
  | .ok acc ρ2 => .ok acc (restE ρ1 vs ρ2)
  | _ => .er
def noW : WX := fun _ _ _ _ => False
def always : En → Out Bool := fun ρ => .ok true ρ
theorem lcL_wiped {g : D → En → Option En} {ft : En → Out Bool} {fe : En → Out D} {vs : List Nat} : ∀ {ds acc out : List D} {ρ ρ2 : En}, lcL g ft fe vs ds acc (wipeE ρ vs) = .ok out ρ2 → ∃ ρ3, ρ2 = wipeE ρ3 vs
  | [], acc, out, ρ, ρ2, h => by
    rw [lcL] at h
    cases h
    exact ⟨_, rfl⟩
  | d :: ds, acc, out, ρ, ρ2, h => by
    rw [lcL] at h
    split at h
    · cases h
    · split at h
      · split at h
        · split at h
          · exact lcL_wiped h
          · cases h
        · cases h
      · exact lcL_wiped h
      · cases h
section
variable {X : Cx} {T : Ct} {W : WX} {ts : List Nat} {elt tg iter : Expr} {ifs : List Expr} {scope : Scope} {vz : List Nat} {own : List (Str × Nat)} {pos : Pos} {f : En → Out (List D)} {g : D → En → Option En} {ft : En → Out Bool} {fe : En → Out D}
theorem lc_ok (tt : TT) {σ : L2.St} {ρ1 : En} {vs : List Nat} (htt : ∀ B F H σ ρ Q, Wd X.K T B F H σ ρ → Post X.K T noW B F σ RB (ft ρ) Q → tt σ H Q) (hts : (ts.all fun i => vs.contains i) = true)
    {B F F1 H1 : Hp} {J : It} {ds : List D} {G : Hp → Prop} {Y : Nat → Hp → V → Hp → Prop} {Q : VK} (w1 : Wd X.K T B F1 H1 σ ρ1) (g1 : Gw B F F1) (wk : Walk J ds.length G Y) (hG : ∀ H2, Same F1 H2 → Same B H2 → G H2) (cm : Came X.K T F1 ds Y)
    {out : List D} {ρ2 : En} (he : lcL g ft fe vs ds [] (wipeE ρ1 vs) = .ok out ρ2) (hq : goodN X.K T B F σ Q out (restE ρ1 vs ρ2)) (a : Addr) (ha : H1 a = none) :
    ∃ W : Nat → Nat → Hp → Prop, (∃ m, W 0 m (upd H1 a (.lst []))) ∧ ∀ i m H, W i m H →
      (J.stop i H ∧ Q (.ref a) H) ∨ (J.go i H ∧ ∃ Nx : Hp → Prop, (∀ H', Nx H' → ∃ m', m' < m ∧ W (i + 1) m' H') ∧ ∀ x H', J.yld i H x H' → tGF X.K T ts g x (L2.wipe σ vs) H' fun σ2 H2 => L2.wipe σ2 vs = L2.wipe σ vs ∧ tt σ2 H2 fun b H3 =>
        if b = true then tPF X.K T noW fe σ2 H3 fun y H4 => ∃ acc, H4 a = some (.lst acc) ∧ acc.length < sizeLine ∧ Nx (upd H4 a (.lst (acc ++ [y]))) else Nx H3) := by
  obtain ⟨f0, b0⟩ := w1.nofree ha
  have sB : ∀ u, Same B (upd B a u) := fun u => same_upd b0
  refine lc_it wk (fun i H => ∃ F2 ρ3 acc accD, Same F1 F2 ∧ Gw B F F2 ∧ F2 a = none ∧ Wd X.K T (upd B a (.lst acc)) F2 H (L2.wipe σ vs) (wipeE ρ3 vs) ∧ IsL X.K T F2 acc accD ∧ lcL g ft fe vs (ds.drop i) accD (wipeE ρ3 vs) = .ok out ρ2)
    ⟨F1, ρ1, [], [], Same.refl F1, g1, f0, (w1.wipe vs).fresh ha, .nil, by simpa using he⟩ (fun i H _ ⟨F2, ρ3, acc, accD, s2, _, _, w2, _, _⟩ => hG H (s2.trans w2.f) ((sB _).trans w2.b)) (fun i x H2 H3 hi ⟨F2, ρ3, acc, accD, s2, g2, fa, w2, l2, e2⟩ y => ?_)
    fun H ⟨F2, ρ3, acc, accD, s2, g2, fa, w2, l2, e2⟩ => ?_
  · obtain ⟨F3, d, ed, g3, w3, ix⟩ := cm i H2 x H3 hi y _ F2 _ _ s2 w2
    obtain ⟨hl, rfl⟩ := List.getElem?_eq_some_iff.mp ed
    have keep : ∀ {F3 F4 : Hp}, Gw (upd B a (.lst acc)) F3 F4 → F3 a = none → F4 a = none := fun {F3 F4} g h => by
      cases z : F4 a with
      | none => rfl
      | some u =>
        rcases g.n a u z with q | q
        · rw [h] at q; cases q
        · rw [upd_same] at q; cases q
    rw [List.drop_eq_getElem_cons hl, lcL] at e2
    split at e2
    · cases e2
    · rename_i ρ4 e4
      refine ⟨_, F3, _, ρ4, _, w3, ix, e4, fun σ2 k2 w4 => ?_⟩
      have hw : L2.wipe σ2 vs = L2.wipe σ vs := wipe_eq k2 hts
      refine ⟨hw, ?_⟩
      refine htt _ F3 H3 σ2 ρ4 _ w4 ?_
      split at e2
      · rename_i ρ5 e5
        rw [e5]
        rintro F5 H5 b g5 w5 rfl
        rw [if_pos rfl]
        refine ⟨_, F5, ρ5, w5, ?_⟩
        split at e2
        · rename_i z ρ6 e6
          rw [e6]
          intro F6 H6 v g6 w6 i6
          split at e2
          · rename_i hlen
            have hlen := of_decide_eq_true hlen
            have gg : Gw (upd B a (.lst acc)) F2 F6 := g3.trans (g5.trans g6)
            refine ⟨acc, w6.b _ _ upd_same, by rw [l2.length]; exact hlen, F6, ρ6, acc ++ [v], accD ++ [z], s2.trans gg.s, g2.trans (gg.less (sB _)), keep gg fa, ?_, (l2.mono gg.s).append (.cons i6 .nil), e2⟩
            rw [← hw]
            exact (w6.wipe vs).over (keep gg fa)
          · cases e2
        · cases e2
      · rename_i ρ5 e5
        rw [e5]
        rintro F5 H5 b g5 w5 rfl
        rw [if_neg Bool.false_ne_true]
        have gg : Gw (upd B a (.lst acc)) F2 F5 := g3.trans g5
        refine ⟨F5, ρ5, acc, accD, s2.trans gg.s, g2.trans (gg.less (sB _)), keep gg fa, ?_, l2.mono gg.s, e2⟩
        rw [← hw]
        exact w5.wipe vs
      · cases e2
  · rw [List.drop_length, lcL] at e2
    cases e2
    exact hq F2 H a acc g2 b0 fa (Wd.rest w1 s2 vs w2.unwipe) l2
theorem pn_lc0 (hc : X.calm = true) (hN : X.N.Nodup) (hi : IF X T W tg iter f) (ok : BlkOk X.N X.env.scope scope own) (hg : ∀ (s : Shared) (H : Hp) (C : Addr) (cl : List (Str × Addr)) (fp : List Addr), GF (X.blk s H scope (compEnvC scope cl C X.env) fp) T ts tg g)
    (he : ∀ (s : Shared) (H : Hp) (C : Addr) (cl : List (Str × Addr)) (fp : List Addr), PF (X.blk s H scope (compEnvC scope cl C X.env) fp) T noW elt fe) (hvs : own.map (·.2) = vz := by rfl) (hts : (ts.all fun i => (own.map (·.2)).contains i) = true := by rfl) (hs : ∀ x, foldedSetIterable iter X.env x = pure x := by intro _; rfl) :
    PN X T W (.ListComp elt [⟨tg, iter, [], 0⟩] scope pos) (nLc f g always fe vz) := by
  subst hvs
  obtain ⟨wi, hwi, hpi⟩ := hi
  refine ⟨_, pe_lc hc hN hwi ok (g := tGF X.K T ts g) (tt := tYes) (te := tPF X.K T noW fe) (fun s H C cl fp => (hg s H C cl fp).pg) (fun s H C cl fp => pts_nil) (fun s H C cl fp => (he s H C cl fp).pe) hs, fun B F H σ ρ Q w q => ?_⟩
  refine hpi B F H σ ρ _ w ((PostX.bind q).imp fun ds ρ1 _ q1 F1 H1 J G Y g1 w1 wk hG cm a ha => ?_)
  split at q1
  · rename_i out ρ2 e2
    exact lc_ok (ts := ts) (ft := always) tYes (fun B F H σ ρ Q w q => q F H true Gw.refl w rfl) hts w1 g1 wk (fun H2 s _ => hG H2 s) cm e2 q1 a ha
  · exact q1.elim
theorem pn_lc1 {c : Expr} (hc : X.calm = true) (hN : X.N.Nodup) (hi : IF X T W tg iter f) (ok : BlkOk X.N X.env.scope scope own) (hg : ∀ (s : Shared) (H : Hp) (C : Addr) (cl : List (Str × Addr)) (fp : List Addr), GF (X.blk s H scope (compEnvC scope cl C X.env) fp) T ts tg g)
    (ht : ∀ (s : Shared) (H : Hp) (C : Addr) (cl : List (Str × Addr)) (fp : List Addr), TF (X.blk s H scope (compEnvC scope cl C X.env) fp) T noW c ft)
    (he : ∀ (s : Shared) (H : Hp) (C : Addr) (cl : List (Str × Addr)) (fp : List Addr), PF (X.blk s H scope (compEnvC scope cl C X.env) fp) T noW elt fe) (hvs : own.map (·.2) = vz := by rfl) (hts : (ts.all fun i => (own.map (·.2)).contains i) = true := by rfl) (hs : ∀ x, foldedSetIterable iter X.env x = pure x := by intro _; rfl) :
    PN X T W (.ListComp elt [⟨tg, iter, [c], 0⟩] scope pos) (nLc f g ft fe vz) := by
  subst hvs
  obtain ⟨wi, hwi, hpi⟩ := hi
  refine ⟨_, pe_lc hc hN hwi ok (g := tGF X.K T ts g) (tt := tTF X.K T noW ft) (te := tPF X.K T noW fe) (fun s H C cl fp => (hg s H C cl fp).pg) (fun s H C cl fp => pts_one (ht s H C cl fp).pt) (fun s H C cl fp => (he s H C cl fp).pe) hs, fun B F H σ ρ Q w q => ?_⟩
  refine hpi B F H σ ρ _ w ((PostX.bind q).imp fun ds ρ1 _ q1 F1 H1 J G Y g1 w1 wk hG cm a ha => ?_)
  split at q1
  · rename_i out ρ2 e2
    exact lc_ok (ts := ts) _ (fun B F H σ ρ Q w q => ⟨B, F, ρ, w, q⟩) hts w1 g1 wk (fun H2 s _ => hG H2 s) cm e2 q1 a ha
  · exact q1.elim
end
end Ce
namespace Ce
open PySem PySem.Spec PyProof.Rows L2 Ce

section
variable {X : Cx} {T : Ct} {W : WX} {bs : List Nat} {e o : Expr} {f : En → Out D} {pos p p2 p3 apos cpos : Pos} {i : Nat}
/-! ### lists that a slot owns -/
theorem slot_own {K : PySem.W.Frag} {B F H : Hp} {σ : L2.St} {ρ : En} {ds : List D} (w : Wd K T B F H σ ρ) (h : ρ[i]? = some (some (.ol ds))) : ∃ a vs, σ[i]? = some (some (.ref a)) ∧ H a = some (.lst vs) ∧ IsL K T F vs ds := by
  obtain ⟨v, fp, ev, o, _⟩ := w.own h
  obtain ⟨a, vs, rfl, _, ha, l⟩ := o.olI
  exact ⟨a, vs, ev, ha, l⟩
/-- new content -/
theorem Wd.list {K : PySem.W.Frag} {B F H : Hp} {σ : L2.St} {ρ : En} {ds es : List D} {a : Addr} {vs ws : List V} (w : Wd K T B F H σ ρ) (h : ρ[i]? = some (some (.ol ds))) (ev : σ[i]? = some (some (.ref a))) (ha : H a = some (.lst vs)) (l : IsL K T F vs ds) (l' : IsL K T F ws es) :
    Wd K T B F (upd H a (.lst ws)) σ (ρ.set i (some (.ol es))) := w.turn h ev (.ol ha l) (.ol upd_same l')
def sApp (i : Nat) (f : En → Out D) : En → SOut := fun ρ => (vw i ρ).st fun _ ρ => (f ρ).st fun d ρ => match ρ[i]? with
  | some (some (.ol ds)) => if decide (ds.length < sizeLine) then .nx (ρ.set i (some (.ol (ds ++ [d])))) else .er
  | _ => .er
theorem vw_st {K : PySem.W.Frag} {B F : Hp} {σ : L2.St} {ρ : En} {E : Ends} {k : List D → En → SOut} (q : PostS K T W bs B F σ ((vw i ρ).st k) E) : ∃ ds, (ρ[i]? = some (some (.im (.lst ds))) ∨ ρ[i]? = some (some (.ol ds))) ∧ PostS K T W bs B F σ (k ds ρ) E := by
  cases e : vw i ρ with
  | ok ds ρ' =>
    obtain ⟨rfl, h⟩ := vw_ok e
    rw [e] at q
    exact ⟨ds, h, q⟩
  | ex x ρ' => unfold vw at e; split at e <;> cases e
  | er => rw [e] at q; exact q.elim
theorem z_app (ho : PE X o (tVar i)) (h : PF X T W e f) (hbase : attributeBase o "append" X.env (eval o X.env) = eval o X.env := by rfl)
    (hfew : ((backTo cpos (starEach [e] X.env)).all (fun x => !x.1) && (backToKw cpos (keywordEach [] X.env)).all (fun x => x.1.isSome)
      && decide (([e] : List Expr).length + ([] : List Keyword).length + (if ([] : List Keyword).isEmpty then 0 else 1) < 30)) = true := by rfl)
    (hline : (apos.endLine == cpos.line) = true := by rfl) (hs : starEach [e] X.env = (false, eval e X.env) :: starEach [] X.env := by rfl) (hpl : (backTo cpos (starEach [] X.env)).any (·.1) = false := by rfl)
    (hsw : swapsWith (.Call (.Attribute o "append" apos) [e] [] cpos) none pos.line X.env = pure false := by rfl) : ZF X T W bs (.Expr (.Call (.Attribute o "append" apos) [e] [] cpos) pos) (sApp i f) := by
  obtain ⟨t, ht, hp⟩ := h
  refine ⟨_, ps_expr (pe_bm PySem.F.plainAttrs_list PySem.F.slot_list_append PySem.F.type_list_append mt_append ho (pa_cons ht pa_nil hs) hbase hfew hline hs hpl) hsw, fun B F H σ ρ E w q => ?_⟩
  obtain ⟨ds0, h0, q⟩ := vw_st q
  obtain ⟨a, vs, ev, s, l⟩ := slot_list w h0
  refine ⟨_, ev, .inl ⟨rfl, vs, s⟩, hp B F H σ ρ _ w (PostS.ofP q fun d ρ1 F1 H1 v g1 w1 i1 q1 => ?_)⟩
  split at q1
  · rename_i ds e1
    split at q1
    · rename_i hl
      have hl := of_decide_eq_true hl
      obtain ⟨a', vs', ev', ha, l'⟩ := slot_own w1 e1
      rw [ev] at ev'
      cases ev'
      exact ⟨a, vs', v, rfl, rfl, ha, by rw [l'.length]; exact hl, q1 F1 _ σ Gw.refl Kp.refl (w1.list e1 ev ha l' (l'.append (.cons i1 .nil)))⟩
    · exact q1.elim
  · exact q1.elim
def popE (i : Nat) : En → Out D := fun ρ => match ρ[i]? with
  | some (some (.ol ds)) => (match ds[ds.length - 1]? with
    | some d => .ok d (ρ.set i (some (.ol ds.dropLast)))
    | none => .er)
  | _ => .er
theorem pf_pop (ho : PE X o (tVar i)) (hbase : attributeBase o "pop" X.env (eval o X.env) = eval o X.env := by rfl) (hline : (apos.endLine == cpos.line) = true := by rfl) : PF X T W (.Call (.Attribute o "pop" apos) [] [] cpos) (popE i) := by
  refine ⟨_, pe_bm0 PySem.F.plainAttrs_list PySem.F.slot_list_pop PySem.F.type_list_pop mt_pop ho hbase hline, fun B F H σ ρ Q w q => ?_⟩
  unfold popE at q
  split at q
  · rename_i ds e1
    obtain ⟨a, vs, ev, ha, l⟩ := slot_own w e1
    split at q
    · rename_i d ed
      obtain ⟨v, hv, iv⟩ := l.get ed
      refine ⟨_, ev, .inl ⟨rfl, vs, SqL.of ha⟩, a, vs, v, rfl, rfl, ha, by rw [l.length]; exact hv, ?_⟩
      exact q F _ v Gw.refl (w.list e1 ev ha l l.dropLast) iv
    · exact q.elim
  · exact q.elim
/-- xs[e] = v -/
def sSetIx (i : Nat) (f fi : En → Out D) : En → SOut := fun ρ => (f ρ).st fun d ρ => (vw i ρ).st fun _ ρ => (fi ρ).st fun k ρ => match k, ρ[i]? with
  | .int k, some (some (.ol ds)) => (match ixN ds.length k with
    | some j => .nx (ρ.set i (some (.ol (ds.set j d))))
    | none => .er)
  | _, _ => .er
theorem z_setIx {ix : Expr} {fi : En → Out D} (ho : PE X o (tVar i)) (hi : PF X T W ix fi) (h : PF X T W e f) (ha : ∀ v, assign (.Subscript o ix p) X.env v = (do
      let ov ← holding [v] (eval o X.env)
      let iv ← holding [v, ov] (eval ix X.env)
      standAt p
      holding [v, ov, iv] (setItem ov iv v)
      release [v, ov, iv] []) := by intro _; rfl) (hs : swapsWithSole [.Subscript o ix p] e pos.line X.env = pure false := by rfl) (hw : swappedStores [.Subscript o ix p] e X.env = pure none := by rfl)
    (h1 : (assignEach [.Subscript o ix p] X.env).map (·.2) = [assign (.Subscript o ix p) X.env] := by rfl) : ZF X T W bs (.Assign [.Subscript o ix p] e pos) (sSetIx i f fi) := by
  obtain ⟨t, ht, hp⟩ := h
  obtain ⟨ti, hti, hpi⟩ := hi
  refine ⟨_, ps_asg ht (pg_sub ho hti set_list ha) hs hw h1, fun B F H σ ρ E w q => hp B F H σ ρ _ w (PostS.ofP q fun d ρ1 F1 H1 v g1 w1 i1 q1 => ?_)⟩
  obtain ⟨ds0, h0, q1⟩ := vw_st q1
  obtain ⟨a, vs, ev, s, l⟩ := slot_list w1 h0
  refine ⟨_, ev, hpi B F1 H1 σ ρ1 _ w1 (PostS.ofP q1 fun k ρ2 F2 H2 u g2 w2 i2 q2 => ?_)⟩
  split at q2
  · rename_i k ds e2
    obtain ⟨a', vs', ev', ha, l'⟩ := slot_own w2 e2
    rw [ev] at ev'
    cases ev'
    split at q2
    · rename_i j ej
      exact ⟨a, vs', k, j, rfl, i2.intI, ha, by rw [l'.length]; exact ej, q2 F2 _ σ Gw.refl Kp.refl (w2.list e2 ev ha l' (l'.set (i1.mono g2.s) j))⟩
    · exact q2.elim
  · exact q2.elim
/-! ### name op= int -/
def sAug (i : Nat) (g : Int → Int → Int) (f : En → Out D) : En → SOut := fun ρ => match ρ[i]? with
  | some (some (.im (.int a))) => (f ρ).st fun d ρ => (match d with
    | .int b => .nx (ρ.set i (some (.im (.int (g a b)))))
    | _ => .er)
  | _ => .er
theorem z_aug {op : Operator} {g : Int → Int → Int} {x : Str} (ip : PIp X op (ipI g)) (hN : X.N.Nodup) (hi : X.N[i]? = some x) (hx : Loc X.env.scope x) (h : PF X T W e f) (hb : bs.contains i = false := by rfl)
    (hf : X.fn x = true ∨ X.env.scope.names.lookup x = some .local := by first | exact .inl rfl | exact .inr rfl | assumption) : ZF X T W bs (.AugAssign (.Name x p) op e pos) (sAug i g f) := by
  obtain ⟨t, ht, hp⟩ := h
  refine ⟨_, ps_aug hN hi hx ht ip hf, fun B F H σ ρ E w q => ?_⟩
  unfold sAug at q
  split at q
  · rename_i a e1
    obtain ⟨v, ev, iv⟩ := w.get e1
    refine ⟨v, ev, hp B F H σ ρ _ w (PostS.ofP q fun d ρ1 F1 H1 u g1 w1 i1 q1 => ?_)⟩
    cases d <;> try exact q1.elim
    rename_i b
    exact ⟨a, b, iv.intI, i1.intI, q1 F1 H1 _ Gw.refl (Kp.set hb) (w1.putIm' (.int _))⟩
  · exact q.elim
/-! ### fields of an object that a slot owns -/
theorem putF_old {K : PySem.W.Frag} {F : Hp} {f : Str} {v : V} {d : D} (iv : Is K T F v d) : ∀ {fs : List (Str × V)} {j : Nat} {ds : List D}, (fs.map (·.1)).Nodup → (fs.map (·.1))[j]? = some f → IsL K T F (fs.map (·.2)) ds →
    (putF f v fs).map (·.1) = fs.map (·.1) ∧ IsL K T F ((putF f v fs).map (·.2)) (ds.set j d)
  | [], _, _, _, h, _ => by simp at h
  | (g, u) :: r, 0, ds, nd, h, l => by
    simp at h
    subst h
    cases l with
    | cons i l => exact ⟨by simp [putF], by simpa [putF] using IsL.cons iv l⟩
  | (g, u) :: r, j + 1, ds, nd, h, l => by
    simp only [List.map_cons, List.nodup_cons] at nd
    simp only [List.map_cons, List.getElem?_cons_succ] at h
    have ne : g ≠ f := fun z => nd.1 (z ▸ List.mem_of_getElem? h)
    cases l with
    | cons i l =>
      obtain ⟨h1, h2⟩ := putF_old iv nd.2 h l
      simp only [putF, if_neg ne, List.map_cons, List.set_cons_succ]
      exact ⟨by rw [h1], .cons i h2⟩
theorem putF_new {K : PySem.W.Frag} {F : Hp} {f : Str} {v : V} {d : D} (iv : Is K T F v d) : ∀ {fs : List (Str × V)} {ds : List D}, f ∉ fs.map (·.1) → IsL K T F (fs.map (·.2)) ds →
    (putF f v fs).map (·.1) = fs.map (·.1) ++ [f] ∧ IsL K T F ((putF f v fs).map (·.2)) (ds ++ [d])
  | [], ds, _, l => by
    cases l
    exact ⟨rfl, .cons iv .nil⟩
  | (g, u) :: r, ds, h, l => by
    simp only [List.map_cons, List.mem_cons, not_or] at h
    cases l with
    | cons i l =>
      obtain ⟨h1, h2⟩ := putF_new iv h.2 l
      simp only [putF, if_neg (fun z : g = f => h.1 z.symm), List.map_cons, List.cons_append]
      exact ⟨by rw [h1], .cons i h2⟩
def putD (ds : List D) (j : Nat) (d : D) : Option (List D) := if decide (j < ds.length) then some (ds.set j d) else if decide (j = ds.length) then some (ds ++ [d]) else none
theorem own_put {K : PySem.W.Frag} {B F H : Hp} {σ : L2.St} {ρ : En} {f : Str} {tbl : Nat → Option Nat} {c j : Nat} {ds es : List D} {v : V} {d : D} (k : FldOk K T f tbl) (hl : (T.fl c).length < 1000) (w : Wd K T B F H σ ρ) (h : ρ[i]? = some (some (.oi c ds))) (ej : tbl c = some j) (ep : putD ds j d = some es) (iv : Is K T F v d) :
    ∃ a dx fs, σ[i]? = some (some (.ref a)) ∧ H a = some (.ins (T.cl c) dx fs) ∧ Cls K (T.cl c) ∧ NoAttr K (T.cl c) f ∧ fs.length < 1000 ∧ Wd K T B F (upd H a (.ins (T.cl c) dx (putF f v fs))) σ (ρ.set i (some (.oi c es))) := by
  obtain ⟨k1, k2, k3, k4⟩ := k.ok c j ej
  obtain ⟨x, fp, ev, o, _⟩ := w.own h
  obtain ⟨a, dx, fs, rfl, _, ha, hn, l⟩ := id o.oiI
  have hlen : fs.length = ds.length := by
    have z := l.length
    simpa using z
  have hle : ds.length ≤ (T.fl c).length := by
    have z := congrArg List.length hn
    simp at z
    omega
  refine ⟨a, dx, fs, ev, ha, k1, k2, by omega, w.turn h ev (.oi ha hn l) ?_⟩
  unfold putD at ep
  have hj : j < (T.fl c).length := (List.getElem?_eq_some_iff.mp k3).1
  split at ep
  · rename_i hjl
    cases ep
    have hjl := of_decide_eq_true hjl
    obtain ⟨h1, h2⟩ := putF_old iv (f := f) (fs := fs) (j := j) (by rw [hn]; exact k4.sublist (List.take_sublist _ _)) (by rw [hn, List.getElem?_take_of_lt hjl]; exact k3) l
    exact .oi upd_same (by rw [h1, hn, List.length_set]) h2
  · split at ep
    · rename_i hjl
      cases ep
      have hjl := of_decide_eq_true hjl
      have nf : f ∉ fs.map (·.1) := by
        rw [hn]
        intro m
        obtain ⟨q, hq, e⟩ := List.mem_take_iff_getElem.mp m
        have e2 := (List.getElem?_eq_some_iff.mp k3).2
        have := (List.getElem_inj k4).mp (e.trans e2.symm)
        omega
      obtain ⟨h1, h2⟩ := putF_new iv nf l
      refine .oi upd_same ?_ h2
      rw [h1, hn, List.length_append, List.length_singleton, ← hjl, List.take_succ, k3]
      rfl
    · cases ep
def sFldS (tbl : Nat → Option Nat) (i : Nat) (f : En → Out D) : En → SOut := fun ρ => (f ρ).st fun d ρ => match ρ[i]? with
  | some (some (.oi c ds)) => (match tbl c with
    | some j => (match putD ds j d with
      | some es => .nx (ρ.set i (some (.oi c es)))
      | none => .er)
    | none => .er)
  | _ => .er
theorem z_fld {nm : Str} {tbl : Nat → Option Nat} (k : FldOk X.K T nm tbl) (hl : ∀ c j, tbl c = some j → (T.fl c).length < 1000) (ho : PE X o (tVar i)) (h : PF X T W e f) (hs : swapsWith e (some (.Attribute o nm p)) pos.line X.env = pure false := by rfl) : ZF X T W bs (.Assign [.Attribute o nm p] e pos) (sFldS tbl i f) := by
  obtain ⟨t, ht, hp⟩ := h
  refine ⟨_, ps_fld ho ht hs, fun B F H σ ρ E w q => hp B F H σ ρ _ w (PostS.ofP q fun d ρ1 F1 H1 v g1 w1 i1 q1 => ?_)⟩
  split at q1
  · rename_i c ds e1
    split at q1
    · rename_i j ej
      split at q1
      · rename_i es ep
        obtain ⟨a, dx, fs, ev, ha, k1, k2, k3, w2⟩ := own_put k (hl c j ej) w1 e1 ej ep i1
        exact ⟨_, ev, a, _, dx, fs, rfl, ha, k1, k2, k3, q1 F1 _ σ Gw.refl Kp.refl w2⟩
      · exact q1.elim
    · exact q1.elim
  · exact q1.elim
/-- self.f += int -/
def sFldA (tbl : Nat → Option Nat) (i : Nat) (g : Int → Int → Int) (f : En → Out D) : En → SOut := fun ρ => match ρ[i]? with
  | some (some (.oi c ds)) => (match tbl c with
    | some j => (match ds[j]? with
      | some (.int a) => (f ρ).st fun d ρ => (match d, ρ[i]? with
        | .int b, some (some (.oi c2 es)) => if decide (c2 = c) then (match putD es j (.int (g a b)) with
          | some es => .nx (ρ.set i (some (.oi c es)))
          | none => .er) else .er
        | _, _ => .er)
      | _ => .er)
    | none => .er)
  | _ => .er
def rII (g : Int → Int → Int) : V → V → Hp → VK → Prop := fun x y H Q => ∃ i j, x = .int i ∧ y = .int j ∧ Q (.int (g i j)) H
theorem z_fldA {op : Operator} {g : Int → Int → Int} {nm : Str} {tbl : Nat → Option Nat} (ip : InOp X op (rII g)) (k : FldOk X.K T nm tbl) (hl : ∀ c j, tbl c = some j → (T.fl c).length < 1000) (ho : PE X o (tVar i)) (h : PF X T W e f) : ZF X T W bs (.AugAssign (.Attribute o nm p) op e pos) (sFldA tbl i g f) := by
  obtain ⟨t, ht, hp⟩ := h
  refine ⟨_, ps_fldaug ho ht ip, fun B F H σ ρ E w q => ?_⟩
  unfold sFldA at q
  split at q
  · rename_i c ds e1
    split at q
    · rename_i j ej
      split at q
      · rename_i a0 ea
        obtain ⟨k1, k2, k3, k4⟩ := k.ok c j ej
        obtain ⟨x, fp, ev, ow, _⟩ := w.own e1
        obtain ⟨a, dx, fs, rfl, _, ha, hn, l⟩ := id ow.oiI
        obtain ⟨v0, e0, i0⟩ := l.get ea
        have hj : j < ds.length := (List.getElem?_eq_some_iff.mp ea).1
        refine ⟨_, ev, a, _, dx, fs, v0, rfl, ha, k1, k2, lookup_at (by rw [hn]; exact k4.sublist (List.take_sublist _ _)) (by rw [hn, List.getElem?_take_of_lt hj]; exact k3) e0, hp B F H σ ρ _ w (PostS.ofP q fun d ρ1 F1 H1 u g1 w1 i1 q1 => ?_)⟩
        split at q1
        · rename_i b c2 es e2
          split at q1
          · rename_i hc
            obtain rfl := of_decide_eq_true hc
            split at q1
            · rename_i es2 ep
              obtain ⟨a2, dx2, fs2, ev2, ha2, k1, k2, k3, w2⟩ := own_put k (hl c2 j ej) w1 e2 ej ep (.int (g a0 b))
              rw [ev] at ev2
              cases ev2
              exact ⟨a0, b, i0.intI, i1.intI, dx2, fs2, ha2, k3, q1 F1 _ σ Gw.refl Kp.refl w2⟩
            · exact q1.elim
          · exact q1.elim
        · exact q1.elim
      · exact q.elim
    · exact q.elim
  · exact q.elim
end
end Ce
namespace Ce
open PySem PySem.Spec PyProof.Rows L2 Ce

/-! ### name = [.. for ..] -/
section
variable {X : Cx} {T : Ct} {W : WX} {bs ts : List Nat} {elt tg iter c : Expr} {scope : Scope} {vz : List Nat} {own : List (Str × Nat)} {pos spos py : Pos} {f : En → Out (List D)} {g : D → En → Option En} {ft : En → Out Bool} {fe : En → Out D} {i : Nat} {y : Str}
theorem setN_post {B F : Hp} {σ : L2.St} {r : Out (List D)} {E : Ends} (hb : bs.contains i = false) (q : PostS X.K T W bs B F σ (r.st fun ds ρ => .nx (ρ.set i (some (.ol ds)))) E) : PostN X.K T W B F σ r fun x H1 => E.nx (σ.set i (some x)) H1 :=
  PostS.ofX q fun ds ρ1 q1 F1 H1 a vs g1 b0 f0 w1 l1 => by
    refine q1 F1 H1 _ g1 (Kp.set hb) ?_
    by_cases h : i < σ.length
    · exact w1.give b0 f0 l1 h
    · rw [List.set_eq_of_length_le (by omega), List.set_eq_of_length_le (by have := w1.l; omega)]
      exact w1.less (same_upd b0)
theorem z_setLc0 (hc : X.calm = true) (hN : X.N.Nodup) (hy : X.N[i]? = some y) (hyl : X.env.scope.names.lookup y = some .local) (hsw : swapsWith (.ListComp elt [⟨tg, iter, [], 0⟩] scope pos) (some (.Name y py)) spos.line X.env = pure true)
    (hi : IF X T W tg iter f) (ok : BlkOk X.N X.env.scope scope own) (hg : ∀ (s : Shared) (H : Hp) (C : Addr) (cl : List (Str × Addr)) (fp : List Addr), GF (X.blk s H scope (compEnvC scope cl C X.env) fp) T ts tg g)
    (he : ∀ (s : Shared) (H : Hp) (C : Addr) (cl : List (Str × Addr)) (fp : List Addr), PF (X.blk s H scope (compEnvC scope cl C X.env) fp) T noW elt fe) (hb : bs.contains i = false := by rfl) (hvs : own.map (·.2) = vz := by rfl) (hts : (ts.all fun i => (own.map (·.2)).contains i) = true := by rfl) (hs : ∀ x, foldedSetIterable iter X.env x = pure x := by intro _; rfl) :
    ZF X T W bs (.Assign [.Name y py] (.ListComp elt [⟨tg, iter, [], 0⟩] scope pos) spos) (sSetN i (nLc f g always fe vz)) := by
  subst hvs
  obtain ⟨wi, hwi, hpi⟩ := hi
  refine ⟨_, ps_setLc hc hN hy hyl hsw hwi ok (g := tGF X.K T ts g) (tt := tYes) (te := tPF X.K T noW fe) (fun s H C cl fp => (hg s H C cl fp).pg) (fun s H C cl fp => pts_nil) (fun s H C cl fp => (he s H C cl fp).pe) hs, fun B F H σ ρ E w q => ?_⟩
  have q := setN_post hb q
  refine hpi B F H σ ρ _ w ((PostX.bind q).imp fun ds ρ1 _ q1 F1 H1 J G Y g1 w1 wk hG cm a ha => ?_)
  split at q1
  · rename_i out ρ2 e2
    exact lc_ok (ts := ts) (ft := always) (Q := fun x H1 => E.nx (σ.set i (some x)) H1) tYes (fun B F H σ ρ Q w q => q F H true Gw.refl w rfl) hts w1 g1 wk (fun H2 s _ => hG H2 s) cm e2 q1 a ha
  · exact q1.elim
theorem z_setLc1 (hc : X.calm = true) (hN : X.N.Nodup) (hy : X.N[i]? = some y) (hyl : X.env.scope.names.lookup y = some .local) (hsw : swapsWith (.ListComp elt [⟨tg, iter, [c], 0⟩] scope pos) (some (.Name y py)) spos.line X.env = pure true)
    (hi : IF X T W tg iter f) (ok : BlkOk X.N X.env.scope scope own) (hg : ∀ (s : Shared) (H : Hp) (C : Addr) (cl : List (Str × Addr)) (fp : List Addr), GF (X.blk s H scope (compEnvC scope cl C X.env) fp) T ts tg g)
    (ht : ∀ (s : Shared) (H : Hp) (C : Addr) (cl : List (Str × Addr)) (fp : List Addr), TF (X.blk s H scope (compEnvC scope cl C X.env) fp) T noW c ft)
    (he : ∀ (s : Shared) (H : Hp) (C : Addr) (cl : List (Str × Addr)) (fp : List Addr), PF (X.blk s H scope (compEnvC scope cl C X.env) fp) T noW elt fe) (hb : bs.contains i = false := by rfl) (hvs : own.map (·.2) = vz := by rfl) (hts : (ts.all fun i => (own.map (·.2)).contains i) = true := by rfl) (hs : ∀ x, foldedSetIterable iter X.env x = pure x := by intro _; rfl) :
    ZF X T W bs (.Assign [.Name y py] (.ListComp elt [⟨tg, iter, [c], 0⟩] scope pos) spos) (sSetN i (nLc f g ft fe vz)) := by
  subst hvs
  obtain ⟨wi, hwi, hpi⟩ := hi
  refine ⟨_, ps_setLc hc hN hy hyl hsw hwi ok (g := tGF X.K T ts g) (tt := tTF X.K T noW ft) (te := tPF X.K T noW fe) (fun s H C cl fp => (hg s H C cl fp).pg) (fun s H C cl fp => pts_one (ht s H C cl fp).pt) (fun s H C cl fp => (he s H C cl fp).pe) hs, fun B F H σ ρ E w q => ?_⟩
  have q := setN_post hb q
  refine hpi B F H σ ρ _ w ((PostX.bind q).imp fun ds ρ1 _ q1 F1 H1 J G Y g1 w1 wk hG cm a ha => ?_)
  split at q1
  · rename_i out ρ2 e2
    exact lc_ok (ts := ts) (Q := fun x H1 => E.nx (σ.set i (some x)) H1) (tTF X.K T noW ft) (fun B F H σ ρ Q w q => ⟨B, F, ρ, w, q⟩) hts w1 g1 wk (fun H2 s _ => hG H2 s) cm e2 q1 a ha
  · exact q1.elim
end

/-! ### a def's body -/
/-- the arguments behind the body: those at bs as they stand, the frozen ones -/
def argE (bs : List Nat) (ρ0 ρ : En) : En := ρ0.mapIdx fun i o => if bs.contains i then (ρ[i]?).join else match o with
  | some (.im d) => some (.im d)
  | _ => none
def mOf (n : Nat) (bs : List Nat) (fb : En → SOut) : En → Out D := fun ρ => match fb (ρ ++ List.replicate (n - ρ.length) none) with
  | .nx ρ' => .ok .non (argE bs ρ ρ')
  | .rt d ρ' => .ok d (argE bs ρ ρ')
  | .ex x ρ' => .ex x (argE bs ρ ρ')
  | _ => .er
section
variable {K : PySem.W.Frag} {T : Ct} {B F F' H H' : Hp} {σ' : L2.St} {ρ ρ' : En} {vs : List V} {bs : List Nat} {n : Nat}
theorem argE_get {i : Nat} {o : O} (h : (argE bs ρ ρ')[i]? = some (some o)) : (bs.contains i = true ∧ ρ'[i]? = some (some o)) ∨ (bs.contains i = false ∧ ∃ d, o = .im d ∧ ρ[i]? = some (some (.im d))) := by
  unfold argE at h
  rw [List.getElem?_mapIdx] at h
  cases e : ρ[i]? with
  | none => rw [e] at h; cases h
  | some x =>
    rw [e] at h
    simp only [Option.map_some, Option.some.injEq] at h
    split at h
    · rename_i hb
      refine .inl ⟨hb, ?_⟩
      cases y : ρ'[i]? with
      | none => rw [y] at h; cases h
      | some z => rw [y] at h; simpa using h
    · rename_i hb
      refine .inr ⟨by simpa using hb, ?_⟩
      split at h
      · rename_i d
        cases h
        exact ⟨d, rfl, rfl⟩
      · cases h
theorem wd_args_back (w : Wd K T B F H (vs.map some) ρ) (s : Same F F') (w' : Wd K T B F' H' σ' ρ') (k : Kp bs (vs.map some ++ List.replicate n none) σ') (hbs : (bs.all fun i => decide (i < vs.length)) = true) : Wd K T B F' H' (vs.map some) (argE bs ρ ρ') := by
  obtain ⟨φ, h1, h2, h3⟩ := w'.o
  refine ⟨w'.b, w'.f, by rw [w.l]; simp [argE], fun i => if bs.contains i then φ i else [], fun i o e => ?_, fun i j a m1 m2 => ?_, fun i a m => ?_⟩
  · dsimp only
    rcases argE_get e with ⟨hb, e'⟩ | ⟨hb, d, rfl, e'⟩
    · rw [if_pos hb]
      obtain ⟨v, ev, q⟩ := h1 i o e'
      have hi : i < vs.length := of_decide_eq_true (List.all_eq_true.mp hbs i (by simpa using hb))
      refine ⟨v, ?_, q⟩
      rw [k i (by simpa using hb), List.getElem?_append_left (by simpa using hi)] at ev
      exact ev
    · rw [if_neg (by rw [hb]; simp)]
      obtain ⟨v, ev, iv⟩ := w.get e'
      exact ⟨v, ev, .im (iv.mono s)⟩
  · dsimp only at m1 m2
    split at m1
    · split at m2
      · exact h2 i j a m1 m2
      · cases m2
    · cases m1
  · dsimp only at m
    split at m
    · rename_i hb
      obtain ⟨⟨o, e⟩, y, z⟩ := h3 i a m
      refine ⟨⟨o, ?_⟩, y, z⟩
      have hi : i < vs.length := of_decide_eq_true (List.all_eq_true.mp hbs i (by simpa using hb))
      have hi2 : i < ρ.length := by have := w.l; simp at this; omega
      unfold argE
      rw [List.getElem?_mapIdx, List.getElem?_eq_getElem hi2]
      simp only [Option.map_some, hb, if_true, e, Option.join]
      rfl
    · cases m
theorem wd_start {m : Nat} (w : Wd K T B F H (vs.map some) ρ) : Wd K T B F H (vs.map some ++ List.replicate m none) (ρ ++ List.replicate m none) := by
  obtain ⟨φ, h1, h2, h3⟩ := w.o
  have hl : vs.length = ρ.length := by have := w.l; simpa using this
  refine ⟨w.b, w.f, by simp [hl], φ, fun i o e => ?_, h2, fun i a m => ?_⟩
  · by_cases h : i < ρ.length
    · rw [List.getElem?_append_left h] at e
      obtain ⟨v, ev, q⟩ := h1 i o e
      exact ⟨v, by rw [List.getElem?_append_left (by simpa [hl] using h)]; exact ev, q⟩
    · rw [List.getElem?_append_right (by omega), List.getElem?_replicate] at e
      split at e <;> cases e
  · obtain ⟨⟨o, e⟩, y⟩ := h3 i a m
    have h : i < ρ.length := (List.getElem?_eq_some_iff.mp e).1
    exact ⟨⟨o, by rw [List.getElem?_append_left h]; exact e⟩, y⟩
end
section
variable {P : Program} {w : World} {K : PySem.W.Frag} {mg : Str → Option Value} {base : Heap} {x qual : Str} {params : Arguments} {body : List Stmt} {scope : Scope} {dvs : List V} {kws : List (Str × V)} {f : Addr} {fd : FuncData} {T : Ct}
/-- THE RULE of a def: its body runs as fb says, so the def runs as mOf says -/
theorem fn_ok {N ps : List Str} {k : Nat} {bs : List Nat} {fb : En → SOut} (Fd : FunD K x qual params body scope dvs kws f fd) (S : FnScope N ps scope) (hbs : (bs.all fun i => decide (i < ps.length)) = true)
    (hb : ∀ (cdv : Value) (A : Around) (outer : List Env) (s : Shared) (H : Hp) (E : XK), Room k (A.deeper (envOfC qual scope s.heap.objs.size f cdv)) → ZFs (cxOf (L2.CX P w) P w K mg base N qual scope f cdv A outer s H E) T (fun c dd _ H' => E c dd H') bs body fb) :
    FnOk P w K mg base (L2.CX P w) (k + 1) f fd ps (spM K T ps.length (mOf N.length bs fb)) := by
  refine FunD.ok Fd S (fun vs H Q E h => h.1) fun cdv A outer s H vs Q E hr ⟨hl, B, F, ρ, w0, q⟩ => ?_
  obtain ⟨t, ht, hp⟩ := hb cdv A outer s H E hr
  refine ⟨t, ht, hp B F H _ _ _ (wd_start w0) ?_⟩
  have hρ : ρ.length = vs.length := by have := w0.l; simpa using this.symm
  have hbs' : (bs.all fun i => decide (i < vs.length)) = true := by rw [hl]; exact hbs
  unfold mOf at q
  rw [hρ] at q
  revert q
  cases fb (ρ ++ List.replicate (N.length - vs.length) none) with
  | nx ρ' => exact fun q F' H' σ' g k' w' => q F' H' .non g (wd_args_back w0 g.s w' k' hbs') .non
  | rt d ρ' => exact fun q F' H' σ' v g k' w' i => q F' H' v g (wd_args_back w0 g.s w' k' hbs') i
  | ex y ρ' => exact fun q F' H' σ' c dd g k' w' e => q F' H' c dd g (wd_args_back w0 g.s w' k' hbs') e
  | bk ρ' => exact fun q => q.elim
  | ct ρ' => exact fun q => q.elim
  | er => exact fun q => q.elim
end
end Ce
namespace Ce
open PySem PySem.Spec PyProof.Rows L2 Ce

/-! ### where a def stands -/
inductive Pa where
  | g (x : Str) | m (C f : Str) | p (C f : Str) | s (C f : Str)
def recOf (K : PySem.W.Frag) (a : Addr) (T : String) : Addr := match PySem.W.recIn K a T with
  | some (.ref g :: _) => g
  | _ => 0
def adr (K : PySem.W.Frag) : Pa → Addr
  | .g x => He.ga K x
  | .m C f => He.ma K (He.ga K C) f
  | .p C f => recOf K (He.ma K (He.ga K C) f) "property"
  | .s C f => recOf K (He.ma K (He.ga K C) f) "staticmethod"
structure Df where
  at_ : Pa
  name : Str
  qual : Str
  params : Arguments
  body : List Stmt
  scope : Scope
  dfl : List He.Dv := []
  kwd : List (Str × He.Dv) := []
def fnX (K : PySem.W.Frag) (a : Addr) : He.FnW := match K.lookup a with
  | some ⟨_, _, .func fd, _⟩ => some (fd.name, fd.qualname, fd.params, fd.body, fd.scope, fd.globals, fd.closure, fd.builtins)
  | _ => none
def Df.val (d : Df) : He.FnW := some (d.name, d.qual, d.params, .stmts d.body, d.scope, mainGlobals, [], builtinsNs)
def Df.dvs (K : PySem.W.Frag) (d : Df) : List V := d.dfl.map (He.Dv.v K)
def Df.kws (K : PySem.W.Frag) (d : Df) : List (Str × V) := d.kwd.map fun q => (q.1, q.2.v K)
def Df.ok (K : PySem.W.Frag) (d : Df) : Bool := PySem.W.keepIn K (.ref (adr K d.at_)) && (match K.lookup (adr K d.at_) with
  | some ⟨_, _, .func fd, _⟩ => PySem.W.codeIn K fd.code d.qual && (He.dflB K fd.defaults (d.dvs K) && He.kwdB K fd.kwdefaults (d.kws K))
  | _ => false)
abbrev Df.Ok (K : PySem.W.Frag) (d : Df) (fd : FuncData) : Prop := FunD K d.name d.qual d.params d.body d.scope (d.dvs K) (d.kws K) (adr K d.at_) fd
theorem Df.funD {K : PySem.W.Frag} {d : Df} (e : fnX K (adr K d.at_) = d.val) (c : d.ok K = true) : ∃ fd, d.Ok K fd := by
  obtain ⟨kp, c2⟩ := Bool.and_eq_true_iff.mp c
  unfold fnX at e
  cases q : K.lookup (adr K d.at_) with
  | none => rw [q] at c2; cases c2
  | some o =>
    obtain ⟨oc, od, dt, osl⟩ := o
    rw [q] at c2 e
    cases dt with
    | func fd =>
      obtain ⟨n1, n2, n3, n4, n5, n6, n7, n8, n9, n10, n11, n12, n13, n14, n15⟩ := fd
      have e2 : (some (n1, n2, n3, n4, n5, n6, n7, n15) : He.FnW) = some (d.name, d.qual, d.params, .stmts d.body, d.scope, mainGlobals, [], builtinsNs) := e
      simp only [Option.some.injEq, Prod.mk.injEq] at e2
      obtain ⟨h1, h2, h3, h4, h5, h6, h7, h8⟩ := e2
      subst h1 h2 h3 h4 h5 h6 h7 h8
      have c3 : (PySem.W.codeIn K n13 d.qual && (He.dflB K n8 (d.dvs K) && He.kwdB K n9 (d.kws K))) = true := c2
      obtain ⟨k1, k2⟩ := Bool.and_eq_true_iff.mp c3
      obtain ⟨k3, k4⟩ := Bool.and_eq_true_iff.mp k2
      exact ⟨_, ⟨oc, od, n8, n9, n10, n11, n12, n13, n14, osl, rfl, q, k1, He.dflB_ok k3, He.kwdB_ok k4⟩, kp⟩
    | _ => cases c2
/-! ### the Hook: facts L, defs fn -/
/-- what an object names that a def's facts may ask for -/
def kidsX (g : Addr → Option Obj) (a : Addr) : List Addr := match g a with
  | some o => (match o.data with
    | .func fd => He.refV fd.code ++ He.refV fd.defaults ++ He.refV fd.kwdefaults
    | .cls cd => cd.ns :: cd.mro.flatMap He.refV
    | .fields vs => vs.toList.flatMap He.refV
    | _ => [])
  | none => []
/-- the values of a dict that are functions, classes, records -/
def valsX (g : Addr → Option Obj) (a : Addr) : List Addr := match g a with
  | some o => (match o.data with
    | .dict es _ => (es.toList.flatMap fun e => He.refV e.val).filter fun b => match g b with
      | some u => (match u.data with
        | .func _ => true
        | .cls _ => true
        | .fields _ => true
        | _ => false)
      | none => false
    | _ => [])
  | none => []
/-- the globals, the classes' names, the functions' codes -/
def asX (g : Addr → Option Obj) : List Addr :=
  let l1 := valsX g mainGlobals
  let l2 := l1.flatMap (kidsX g)
  let l3 := l2.flatMap (valsX g)
  let l4 := l3.flatMap (kidsX g)
  let l5 := l4.flatMap (kidsX g)
  mainGlobals :: cStatics :: l1 ++ l2 ++ l3 ++ l4 ++ l5
abbrev AlX : Type := Bool × List He.FnW
def obsX (L : PySem.W.Frag → List Bool) (fn : List Df) (K : PySem.W.Frag) : AlX := ((L K).all id && fn.all fun d => d.ok K, fn.map fun d => fnX K (adr K d.at_))
def valX (fn : List Df) : AlX := (true, fn.map Df.val)
def SaysX (L : PySem.W.Frag → List Bool) (fn : List Df) (K : PySem.W.Frag) : Prop := obsX L fn K = valX fn
def obsXG (L : PySem.W.Frag → List Bool) (fn : List Df) (g : Addr → Option Obj) : AlX := obsX L fn (He.frG g (asX g))
def hookX (L : PySem.W.Frag → List Bool) (fn : List Df) : PySem.W.Hook where
  α := AlX
  obs := fun s => obsXG L fn s.heap.get?
  val := fun _ => valX fn
  says := fun _ h => ∃ K : PySem.W.Frag, K.In h ∧ SaysX L fn K
  of := fun _ _ e => ⟨_, He.frG_in, e⟩
  keeps := fun _ _ _ ⟨K, hK, c⟩ k => ⟨K, PySem.W.Frag.In.keeps hK k, c⟩
theorem obsXG_eq {L : PySem.W.Frag → List Bool} {fn : List Df} {g : Addr → Option Obj} {s : Shared} (h : ∀ a, g a = s.heap.get? a) : obsXG L fn g = (hookX L fn).obs s := by
  have e : g = s.heap.get? := funext h
  rw [e] <;> rfl
section
variable {L : PySem.W.Frag → List Bool} {fn : List Df} {K : PySem.W.Frag}
theorem SaysX.fact (c : SaysX L fn K) (i : Nat) {b : Bool} (h : (L K)[i]? = some b := by rfl) : b = true := by
  have c1 := (Bool.and_eq_true_iff.mp (show ((L K).all id && fn.all fun d => d.ok K) = true from congrArg (fun z : AlX => z.1) c)).1
  exact List.all_eq_true.mp c1 b (List.mem_of_getElem? h)
theorem SaysX.def_ (c : SaysX L fn K) (i : Nat) {d : Df} (h : fn[i]? = some d := by rfl) : ∃ fd, d.Ok K fd := by
  have c2 := (Bool.and_eq_true_iff.mp (show ((L K).all id && fn.all fun d => d.ok K) = true from congrArg (fun z : AlX => z.1) c)).2
  have e : fn.map (fun d => fnX K (adr K d.at_)) = fn.map Df.val := congrArg (fun z : AlX => z.2) c
  have e2 : (fn.map fun d => fnX K (adr K d.at_))[i]? = (fn.map Df.val)[i]? := by rw [e]
  rw [List.getElem?_map, List.getElem?_map, h] at e2
  exact Df.funD (Option.some.inj e2) (List.all_eq_true.mp c2 d (List.mem_of_getElem? h))
end
/-! ### facts -/
def fFree (x : Str) (K : PySem.W.Frag) : Bool := (He.Fa.free x).ok K
def fGlo (x : Str) (K : PySem.W.Frag) : Bool := (He.Fa.glo x).ok K && PySem.W.keepIn K (.ref (He.ga K x))
/-- a global that is a built-in -/
def fBlt (x : Str) (id : String) (K : PySem.W.Frag) : Bool := He.eqO (PySem.W.nsIn K mainGlobals x) (some (some (.builtin id)))
def fCls (C : Str) (K : PySem.W.Frag) : Bool := (He.Fa.cls C).ok K && (He.eqO (PySem.W.findIn K (.ref (He.ga K C)) "__class__") (some (some (.builtin "object.__class__"))) && (He.eqO (PySem.W.specialIn K (.builtin "object.__class__") "__get__") (some (some (.builtin "getset_descriptor.__get__"))) &&
  (decide (PySem.W.takesIn K (.builtin "object.__class__") = some true) && decide (PySem.W.mroIn K (He.ga K C) (.type "object") = some true))))
def fNo (C f : Str) (K : PySem.W.Frag) : Bool := (He.Fa.noat C f).ok K
def fMeth (C f : Str) (K : PySem.W.Frag) : Bool := (He.Fa.meth C f).ok K
def fMk (C : Str) (K : PySem.W.Frag) : Bool := (He.Fa.mkr C).ok K
def fBin (C : Str) (op : Operator) (f : Str) (K : PySem.W.Frag) : Bool := PySem.W.selfFirst K (He.ga K C) && (He.eqO (PySem.W.findIn K (.ref (He.ga K C)) (PySem.dunder op.info.2)) (some (some (.ref (He.ma K (He.ga K C) f)))) && PySem.W.isFn K (.ref (He.ma K (He.ga K C) f)))
def fNeg (C : Str) (K : PySem.W.Frag) : Bool := He.eqO (PySem.W.findIn K (.ref (He.ga K C)) "__neg__") (some (some (.ref (He.ma K (He.ga K C) "__neg__")))) && PySem.W.isFn K (.ref (He.ma K (He.ga K C) "__neg__"))
def fEq (C : Str) (K : PySem.W.Frag) : Bool := He.eqO (PySem.W.findIn K (.ref (He.ga K C)) "__eq__") (some (some (.ref (He.ma K (He.ga K C) "__eq__")))) && (PySem.W.isFn K (.ref (He.ma K (He.ga K C) "__eq__")) &&
  (He.eqO (PySem.W.findIn K (.ref (He.ga K C)) "__ne__") (some (some (.builtin "object.__ne__"))) && decide (PySem.W.mroIn K (He.ga K C) (.type "object") = some true)))
def fPrp (C f : Str) (K : PySem.W.Frag) : Bool := He.eqO (PySem.W.findIn K (.ref (He.ga K C)) f) (some (some (.ref (He.ma K (He.ga K C) f)))) && (He.eqO (PySem.W.specialIn K (.ref (He.ma K (He.ga K C) f)) "__get__") (some (some (.builtin "property.__get__"))) &&
  (decide (PySem.W.takesIn K (.ref (He.ma K (He.ga K C) f)) = some true) && (match PySem.W.recIn K (He.ma K (He.ga K C) f) "property" with
    | some (.ref _ :: _) => true
    | _ => false)))
def fSt (C f : Str) (K : PySem.W.Frag) : Bool := PySem.W.readsIn K (He.ga K C) (.type "type") && (He.eqO (PySem.W.specialIn K (.ref (He.ga K C)) "__getattribute__") (some (some (.builtin "type.__getattribute__"))) && ((match PySem.W.findCls K (.ref (He.ga K C)) (.type "type") f with
    | some (.get (.builtin i) (.ref p) .none (.ref c)) => decide (i = "staticmethod.__get__") && (decide (p = He.ma K (He.ga K C) f) && decide (c = He.ga K C))
    | _ => false) && ((match PySem.W.recIn K (He.ma K (He.ga K C) f) "staticmethod" with
    | some (.ref _ :: _) => true
    | _ => false) && PySem.W.keepIn K (.ref (recOf K (He.ma K (He.ga K C) f) "staticmethod")))))
/-- isinstance of the classes Cs, by the class C, by the types ns -/
def fIs (C : Str) (Cs : List Str) (K : PySem.W.Frag) : Bool := (Cs.all fun D => decide (PySem.W.kitOne K (.ref (He.ga K D)) (.ref (He.ga K C)) = some (decide (D = C)))) && ["NoneType", "bool", "int", "str", "list", "tuple"].all fun n => decide (PySem.W.kitOne K (.type n) (.ref (He.ga K C)) = some false)
def fIsT (n : String) (Cs : List Str) (K : PySem.W.Frag) : Bool := Cs.all fun D => decide (PySem.W.kitOne K (.ref (He.ga K D)) (.type n) = some false)
/-- the classes stand apart -/
def fApart (Cs : List Str) (K : PySem.W.Frag) : Bool := decide (Cs.map (He.ga K)).Nodup && (Cs.all fun C => decide (He.ga K C < 1000000000000))
/-- the classes by number -/
def ctOf (Cs : List (Str × List Str)) (K : PySem.W.Frag) : Ct where
  cl := fun c => match Cs[c]? with
    | some C => He.ga K C.1
    | none => 1000000000000 + c
  fl := fun c => match Cs[c]? with
    | some C => C.2
    | none => []
section
variable {K : PySem.W.Frag} {h : Heap} {mg : Str → Option Value} {Cs : List (Str × List Str)} {x C f : Str} {c : Nat}
theorem free_of (X : K.In h) (G : h.Ns mainGlobals mg) (b : fFree x K = true) : mg x = none := He.free_ok X G b
theorem glo_of (X : K.In h) (G : h.Ns mainGlobals mg) (b : fGlo x K = true) : mg x = some (.ref (He.ga K x)) := He.glo_ok X G (Bool.and_eq_true_iff.mp b).1
theorem keep_of (b : fGlo x K = true) : PySem.W.keepIn K (.ref (He.ga K x)) = true := (Bool.and_eq_true_iff.mp b).2
theorem blt_of {id : String} (X : K.In h) (G : h.Ns mainGlobals mg) (b : fBlt x id K = true) : mg x = some (.builtin id) := PySem.W.mg_of X G (He.eqO_ok b)
theorem cls_of (b : fCls C K = true) : Cls K (He.ga K C) ∧ SlX.SIsi K (He.ga K C) := by
  obtain ⟨b0, b⟩ := Bool.and_eq_true_iff.mp b
  obtain ⟨b1, b⟩ := Bool.and_eq_true_iff.mp b
  obtain ⟨b2, b⟩ := Bool.and_eq_true_iff.mp b
  obtain ⟨b3, b4⟩ := Bool.and_eq_true_iff.mp b
  exact ⟨He.cls_ok b0, He.eqO_ok b1, He.eqO_ok b2, of_decide_eq_true b3, of_decide_eq_true b4⟩
theorem in_of (hc : Cs[c]?.map (·.1) = some C) (b : fCls C K = true) : InOk K (ctOf Cs K) c := by
  have e : (ctOf Cs K).cl c = He.ga K C := by
    cases z : Cs[c]? with
    | none => rw [z] at hc; cases hc
    | some q => rw [z] at hc; simp at hc; simp [ctOf, z, hc]
  obtain ⟨k1, k2⟩ := cls_of b
  exact ⟨e ▸ k1, e ▸ k2⟩
theorem ct_cl (hc : Cs[c]?.map (·.1) = some C) : (ctOf Cs K).cl c = He.ga K C := by
  cases z : Cs[c]? with
  | none => rw [z] at hc; cases hc
  | some q => rw [z] at hc; simp at hc; simp [ctOf, z, hc]
theorem mt_of {a : Str} (hc : Cs[c]?.map (·.1) = some C) (b : fCls C K = true) (b2 : fMeth C a K = true) (hn : ((ctOf Cs K).fl c).contains a = false := by rfl) : MtOk K (ctOf Cs K) c a (He.ma K (He.ga K C) a) := by
  have e := ct_cl (K := K) hc
  exact ⟨e ▸ (cls_of b).1, e ▸ He.meth_ok b2, hn⟩
theorem bin_of {op : Operator} (hc : Cs[c]?.map (·.1) = some C) (b : fBin C op f K = true) : BinOk K (ctOf Cs K) c op (He.ma K (He.ga K C) f) := by
  have e := ct_cl (K := K) hc
  obtain ⟨b0, b⟩ := Bool.and_eq_true_iff.mp b
  obtain ⟨b1, b2⟩ := Bool.and_eq_true_iff.mp b
  exact ⟨by rw [e]; exact b0, by rw [e]; exact He.eqO_ok b1, b2⟩
theorem neg_of (hc : Cs[c]?.map (·.1) = some C) (b : fNeg C K = true) : NegOk K (ctOf Cs K) c (He.ma K (He.ga K C) "__neg__") := by
  have e := ct_cl (K := K) hc
  obtain ⟨b0, b1⟩ := Bool.and_eq_true_iff.mp b
  exact ⟨by rw [e]; exact He.eqO_ok b0, b1⟩
theorem eq_of (hc : Cs[c]?.map (·.1) = some C) (b : fEq C K = true) : EqOk K (ctOf Cs K) c (He.ma K (He.ga K C) "__eq__") := by
  have e := ct_cl (K := K) hc
  obtain ⟨b0, b⟩ := Bool.and_eq_true_iff.mp b
  obtain ⟨b1, b⟩ := Bool.and_eq_true_iff.mp b
  obtain ⟨b2, b3⟩ := Bool.and_eq_true_iff.mp b
  exact ⟨by rw [e]; exact He.eqO_ok b0, b1, by rw [e]; exact He.eqO_ok b2, by rw [e]; exact of_decide_eq_true b3⟩
theorem mk_of (hc : Cs[c]?.map (·.1) = some C) (b : fMk C K = true) : Mk K ((ctOf Cs K).cl c) (He.ma K (He.ga K C) "__init__") := by
  rw [ct_cl (K := K) hc]
  exact He.mkr_ok b
theorem recOf_ok {a : Addr} {T : String} (h : (match PySem.W.recIn K a T with
    | some (.ref _ :: _) => true
    | _ => false) = true) : ∃ rest, PySem.W.recIn K a T = some (.ref (recOf K a T) :: rest) := by
  unfold recOf
  split at h
  · rename_i g r e
    rw [e]
    exact ⟨r, rfl⟩
  · cases h
theorem prp_of (hc : Cs[c]?.map (·.1) = some C) (b : fCls C K = true) (b2 : fPrp C f K = true) : PrOk K (ctOf Cs K) c f (He.ma K (He.ga K C) f) (adr K (.p C f)) := by
  have e := ct_cl (K := K) hc
  obtain ⟨b0, b2⟩ := Bool.and_eq_true_iff.mp b2
  obtain ⟨b1, b2⟩ := Bool.and_eq_true_iff.mp b2
  obtain ⟨b3, b4⟩ := Bool.and_eq_true_iff.mp b2
  exact ⟨by rw [e]; exact (cls_of b).1, by rw [e]; exact He.eqO_ok b0, He.eqO_ok b1, of_decide_eq_true b3, recOf_ok b4⟩
theorem st_of (b : fSt C f K = true) : StOk K (He.ga K C) (.type "type") f (He.ma K (He.ga K C) f) (adr K (.s C f)) := by
  obtain ⟨b0, b⟩ := Bool.and_eq_true_iff.mp b
  obtain ⟨b1, b⟩ := Bool.and_eq_true_iff.mp b
  obtain ⟨b2, b⟩ := Bool.and_eq_true_iff.mp b
  obtain ⟨b3, b4⟩ := Bool.and_eq_true_iff.mp b
  refine ⟨b0, He.eqO_ok b1, ?_, recOf_ok b3, b4⟩
  split at b2
  · rename_i i p c e
    obtain ⟨h1, b2⟩ := Bool.and_eq_true_iff.mp b2
    obtain ⟨h2, h3⟩ := Bool.and_eq_true_iff.mp b2
    rw [e, of_decide_eq_true h1, of_decide_eq_true h2, of_decide_eq_true h3]
  · cases b2
theorem apart_of (b : fApart (Cs.map (·.1)) K = true) : (ctOf Cs K).Inj := by
  obtain ⟨b0, b1⟩ := Bool.and_eq_true_iff.mp b
  have nd := of_decide_eq_true b0
  refine ⟨fun c c' e => ?_⟩
  have lt : ∀ (c : Nat) (q : Str × List Str), Cs[c]? = some q → He.ga K q.1 < 1000000000000 := fun c q z => of_decide_eq_true (List.all_eq_true.mp b1 q.1 (List.mem_map.mpr ⟨q, List.mem_of_getElem? z, rfl⟩))
  simp only [ctOf] at e
  cases z : Cs[c]? with
  | none =>
    cases z' : Cs[c']? with
    | none => rw [z, z'] at e; simp at e; exact e
    | some q =>
      rw [z, z'] at e
      have y := lt c' q z'
      have e' : 1000000000000 + c = He.ga K q.1 := e
      rw [← e'] at y
      exact absurd y (Nat.not_lt.mpr (Nat.le_add_right _ _))
  | some q =>
    cases z' : Cs[c']? with
    | none =>
      rw [z, z'] at e
      have y := lt c q z
      have e' : He.ga K q.1 = 1000000000000 + c' := e
      rw [e'] at y
      exact absurd y (Nat.not_lt.mpr (Nat.le_add_right _ _))
    | some q' =>
      rw [z, z'] at e
      simp at e
      have h1 : c < (Cs.map (·.1) |>.map (He.ga K)).length := by simpa using (List.getElem?_eq_some_iff.mp z).1
      have h2 : c' < (Cs.map (·.1) |>.map (He.ga K)).length := by simpa using (List.getElem?_eq_some_iff.mp z').1
      refine (List.getElem_inj (h₀ := h1) (h₁ := h2) nd).mp ?_
      have e1 : (Cs.map (·.1) |>.map (He.ga K))[c]? = some (He.ga K q.1) := by simp [z]
      have e2 : (Cs.map (·.1) |>.map (He.ga K))[c']? = some (He.ga K q'.1) := by simp [z']
      rw [List.getElem?_eq_getElem h1] at e1
      rw [List.getElem?_eq_getElem h2] at e2
      rw [Option.some.inj e1, Option.some.inj e2, e]
theorem fld_of {tbl : Nat → Option Nat} (h : ∀ c j, tbl c = some j → ∃ C, Cs[c]? = some C ∧ fCls C.1 K = true ∧ fNo C.1 f K = true ∧ C.2[j]? = some f ∧ C.2.Nodup) : FldOk K (ctOf Cs K) f tbl := by
  refine ⟨fun c j e => ?_⟩
  obtain ⟨C, h1, h2, h3, h4, h5⟩ := h c j e
  have z := ct_cl (K := K) (Cs := Cs) (c := c) (C := C.1) (by rw [h1]; rfl)
  have y : (ctOf Cs K).fl c = C.2 := by simp [ctOf, h1]
  rw [z, y]
  exact ⟨(cls_of h2).1, He.noat_ok h3, h4, h5⟩
def isChk (Cs : List (Str × List Str)) (c : Nat) (C : Str) (cs : List Nat) : Bool := cs.all fun c' => match Cs[c']? with
  | some D => decide (D.1 = C) == decide (c' = c)
  | none => false
theorem isC_of {cs : List Nat} {C : Str} (hc : Cs[c]?.map (·.1) = some C) (hcs : isChk Cs c C cs = true) (b : fIs C (Cs.map (·.1)) K = true) : IsC K (ctOf Cs K) c cs := by
  obtain ⟨b0, b1⟩ := Bool.and_eq_true_iff.mp b
  have e := ct_cl (K := K) hc
  refine ⟨fun c' m => ?_, fun n m => ?_⟩
  · have q := List.all_eq_true.mp hcs c' m
    cases z : Cs[c']? with
    | none => rw [z] at q; cases q
    | some D =>
      rw [z] at q
      have q := eq_of_beq q
      rw [e, ct_cl (K := K) (C := D.1) (by rw [z]; rfl), ← q]
      exact of_decide_eq_true (List.all_eq_true.mp b0 D.1 (List.mem_map.mpr ⟨D, List.mem_of_getElem? z, rfl⟩))
  · rw [e]
    exact of_decide_eq_true (List.all_eq_true.mp b1 n m)
theorem isT_of {n : String} {cs : List Nat} (hcs : (cs.all fun c => decide (c < Cs.length)) = true) (b : fIsT n (Cs.map (·.1)) K = true) : ∀ c' ∈ cs, PySem.W.kitOne K (.ref ((ctOf Cs K).cl c')) (.type n) = some false := fun c' m => by
  have q := of_decide_eq_true (List.all_eq_true.mp hcs c' m)
  have z : Cs[c']? = some Cs[c'] := List.getElem?_eq_getElem q
  rw [ct_cl (K := K) (C := Cs[c'].1) (by rw [z]; rfl)]
  exact of_decide_eq_true (List.all_eq_true.mp b Cs[c'].1 (List.mem_map.mpr ⟨Cs[c'], List.getElem_mem q, rfl⟩))
end
theorem takes_no {X : Cx} : Takes X noW := fun _ _ ⟨_, _, _, _, _, _, _, _, _, _, _, _, _, _, _, _, z⟩ => z.elim
end Ce
namespace Ce
open PySem PySem.Spec PyProof.Rows L2 Ce

/-! ### min, max of a list or a tuple of ints -/
def intsOf : List D → Option (List Int)
  | [] => some []
  | .int i :: ds => (intsOf ds).map (i :: ·)
  | _ => none
theorem intsOf_ok {K : PySem.W.Frag} {T : Ct} {F : Hp} : ∀ {vs : List V} {ds : List D} {ns : List Int}, IsL K T F vs ds → intsOf ds = some ns → vs = ns.map V.int
  | _, _, _, .nil, h => by cases h; rfl
  | _, _, ns, .cons i l, h => by
    rename_i v d vs ds
    cases d <;> try cases h
    rename_i k
    rw [intsOf, Option.map_eq_some_iff] at h
    obtain ⟨ms, h1, rfl⟩ := h
    rw [List.map_cons, i.intI, intsOf_ok l h1]
def minI (n : Int) (ns : List Int) : Int := ns.foldl (fun a y => if decide (y < a) = true then y else a) n
def maxI (n : Int) (ns : List Int) : Int := ns.foldl (fun a y => if decide (a < y) = true then y else a) n
theorem of_holds_int {h : Heap} {v : Value} {n : Int} (H : PySem.W.Holds h v n) : ∃ t, v = .int n t := by
  obtain ⟨as, r⟩ := H
  cases r with
  | int n t => exact ⟨t, rfl⟩
def rMM (K : PySem.W.Frag) (m : Int → List Int → Int) : List V → Hp → VK → Prop := fun vs H Q => ∃ (a : Addr) (n : Int) (ns : List Int), vs = [V.ref a] ∧ (SqL K H a ((n :: ns).map V.int) ∨ SqT K H a ((n :: ns).map V.int)) ∧ Q (.int (m n ns)) H
section
variable {X : Cx} {T : Ct} {W : WX}
theorem room0 {A : Around} {n : Nat} (r : Room n A) : A.units + 1 + 0 < cLine := by have := r.un; omega
theorem cr_min1 (hr : Room 0 X.A) : CallR X (.builtin "min") (rMM X.K minI) := by
  rintro pins s σ H vs us Q I r ⟨a, n, ns, rfl, hs, q⟩
  rw [Vals.ref1 r]
  rcases hs with hs | hs
  · obtain ⟨its, rv, hl, _⟩ := I.list hs
    refine PySem.W.min_list_datum (α := Int) hr.hd hl.isList (x := n) (xs := ns) (PySem.W.HoldAll.of_ints (by simpa using rv.ints)) (room0 hr) fun i v h' tk _ hv hk => ?_
    obtain ⟨t, rfl⟩ := of_holds_int hv
    exact ⟨.int _, H, I.kept hk, ⟨t, rfl⟩, q⟩
  · obtain ⟨its, rv, hl, _⟩ := I.tuple hs
    refine PySem.W.min_tuple_datum (α := Int) hr.hd (show s.heap.IsTuple a its.toArray from hl) (x := n) (xs := ns) (PySem.W.HoldAll.of_ints (by simpa using rv.ints)) (room0 hr) fun i v h' tk _ hv hk => ?_
    obtain ⟨t, rfl⟩ := of_holds_int hv
    exact ⟨.int _, H, I.kept hk, ⟨t, rfl⟩, q⟩
theorem cr_max1 (hr : Room 0 X.A) : CallR X (.builtin "max") (rMM X.K maxI) := by
  rintro pins s σ H vs us Q I r ⟨a, n, ns, rfl, hs, q⟩
  rw [Vals.ref1 r]
  rcases hs with hs | hs
  · obtain ⟨its, rv, hl, _⟩ := I.list hs
    refine PySem.W.max_list_datum (α := Int) hr.hd hl.isList (x := n) (xs := ns) (PySem.W.HoldAll.of_ints (by simpa using rv.ints)) (room0 hr) fun i v h' tk _ hv hk => ?_
    obtain ⟨t, rfl⟩ := of_holds_int hv
    exact ⟨.int _, H, I.kept hk, ⟨t, rfl⟩, q⟩
  · obtain ⟨its, rv, hl, _⟩ := I.tuple hs
    refine PySem.W.max_tuple_datum (α := Int) hr.hd (show s.heap.IsTuple a its.toArray from hl) (x := n) (xs := ns) (PySem.W.HoldAll.of_ints (by simpa using rv.ints)) (room0 hr) fun i v h' tk _ hv hk => ?_
    obtain ⟨t, rfl⟩ := of_holds_int hv
    exact ⟨.int _, H, I.kept hk, ⟨t, rfl⟩, q⟩
def kMM (m : Int → List Int → Int) : List D → Option D := fun ds => match ds with
  | [.lst xs] => (match intsOf xs with
    | some (n :: ns) => some (.int (m n ns))
    | _ => none)
  | [.tup xs] => (match intsOf xs with
    | some (n :: ns) => some (.int (m n ns))
    | _ => none)
  | _ => none
theorem cf_mm {id : String} {m : Int → List Int → Int} (h : CallR X (.builtin id) (rMM X.K m)) : CF X T W (.builtin id) (fun ds => opt (kMM m ds)) := cf_pure h fun F H vs ds d Q g l e q => by
  unfold kMM at e
  split at e
  · rename_i xs
    obtain ⟨v, rfl, i⟩ := l.one
    obtain ⟨a, us, rfl, s, l2⟩ := i.lstI
    split at e
    · rename_i n ns en
      cases e
      exact ⟨a, n, ns, rfl, .inl (intsOf_ok l2 en ▸ g.seq s), q _ (.int _)⟩
    · cases e
  · rename_i xs
    obtain ⟨v, rfl, i⟩ := l.one
    obtain ⟨a, us, rfl, s, l2⟩ := i.tupI
    split at e
    · rename_i n ns en
      cases e
      exact ⟨a, n, ns, rfl, .inr (intsOf_ok l2 en ▸ same_seq g s), q _ (.int _)⟩
    · cases e
  · cases e
/-! ### i ** j -/
abbrev iPow : D → D → En → Out D := fun x y => opt (ii (fun i j => if decide (0 ≤ j) && decide (j ≤ 1000) && decide (i.natAbs < 2 ^ 64) then some (.int (i ^ j.toNat)) else none) x y)
theorem of_pow : OF X T W (binaryOp .Pow) iPow := of_ii op_pow fun i j d e => by
  split at e
  · rename_i h
    cases e
    simp only [Bool.and_eq_true, decide_eq_true_eq] at h
    exact ⟨⟨h.1.1, by omega, h.2⟩, fun _ => .int _⟩
  · cases e
/-! ### calls with keywords -/
def kwM (n m : Nat) (mm : En → Out D) (ds es : List D) (ρ : En) : Out D := if decide (ds.length = n ∧ es.length = m) then onD mm (ds ++ es) ρ else .er
theorem kfk_fn {k n : Nat} {f : Addr} {fd : FuncData} {ps ks : List Str} {m : En → Out D} (F : FnM X T k f fd ps m) (hr : Room k X.A) (hb : KBn X.K fd ps n ks (fun us ws => us ++ ws) (fun vs zs => vs ++ zs)) (hn : n + ks.length = ps.length) (tk : Takes X W) {kl : Nat} (hk : ks.length = kl := by rfl) : KFK X T W (.ref f) ks (kwM n kl m) := by
  subst hk
  refine ⟨_, cal_fnK F hr hb (E := WE W) fun σ => passAt tk σ, fun B F0 H σ ρ Q vs zs ds es w l l' q => ?_⟩
  unfold kwM at q
  split at q
  · rename_i h
    obtain ⟨h1, h2⟩ := of_decide_eq_true h
    exact ⟨by rw [l.length]; exact h1, by rw [l'.length]; exact h2, onD_post w (l.append l') (by simp [h1, h2, hn]) q⟩
  · exact q.elim
theorem kw_nil : KwF X T W [] aN := ⟨_, pk_nil, fun B F H σ ρ Q w h => h F H [] Gw.refl w .nil⟩
theorem kw_cons {e : Expr} {nm : Option Str} {kpos : Pos} {kws : List Keyword} {f : En → Out D} {g : En → Out (List D)} (h1 : PF X T W e f) (h2 : KwF X T W kws g) : KwF X T W (⟨nm, e, kpos⟩ :: kws) (aC f g) := by
  obtain ⟨t, ht, hp⟩ := h1
  obtain ⟨u, hu, hq⟩ := h2
  refine ⟨_, pk_cons ht hu, fun B F H σ ρ Q w q => hp B F H σ ρ _ w (Post.step q fun d ρ1 F1 H1 v g1 w1 i1 q1 => ?_)⟩
  exact hq B F1 H1 σ ρ1 _ w1 (Post.step q1 fun ds ρ2 F2 H2 vs g2 w2 l2 q2 => q2 F2 H2 (v :: vs) Gw.refl w2 (.cons (i1.mono g2.s) l2))
def clK (m : List D → List D → En → Out D) (g gk : En → Out (List D)) : En → Out D := fun ρ => (g ρ).bind fun ds ρ => (gk ρ).bind fun es ρ => m ds es ρ
theorem pf_callK {m : List D → List D → En → Out D} {g gk : En → Out (List D)} {ks : List Str} {x : Str} {u : Value} {p pos : Pos} {e : Expr} {es : List Expr} {kws : List Keyword} (k : KFK X T W u ks m) (hg : Gl X x) (hm : X.mg x = some u) (hk : PySem.W.keepIn X.K u = true) (ha : AF X T W (e :: es) g) (hkw : KwF X T W kws gk)
    (hall : (backToKw pos (keywordEach kws X.env)).all (·.1.isSome) = true := by rfl) (hks : (backToKw pos (keywordEach kws X.env)).filterMap (·.1) = ks := by rfl) (hdb : (x == ("__debug__" : Str)) = false := by decide)
    (he : starEach (e :: es) X.env = (false, eval e X.env) :: starEach es X.env := by rfl) (hpl : ((backTo pos (starEach (e :: es) X.env)).any (·.1) || (backToKw pos (keywordEach kws X.env)).any (·.1.isNone)) = false := by rfl) : PF X T W (.Call (.Name x p) (e :: es) kws pos) (clK m g gk) := by
  obtain ⟨r, c, hp⟩ := k
  obtain ⟨t, ht, hq⟩ := ha
  obtain ⟨tk, htk, hqk⟩ := hkw
  refine ⟨_, pe_nmK c hg hm hk ht htk hall hks hdb he hpl, fun B F H σ ρ Q w q => hq B F H σ ρ _ w (Post.step q fun ds ρ1 F1 H1 vs g1 w1 l1 q1 => ?_)⟩
  exact hqk B F1 H1 σ ρ1 _ w1 (Post.step q1 fun es' ρ2 F2 H2 zs g2 w2 l2 q2 => hp B F2 H2 σ ρ2 Q vs zs ds es' w2 (l1.mono g2.s) l2 q2)
end
/-! ### binding -/
section
variable {K : PySem.W.Frag} {T : Ct} {x qual : Str} {params : Arguments} {body : List Stmt} {scope : Scope} {dvs : List V} {kws : List (Str × V)} {f : Addr} {fd : FuncData} {ps ks : List Str} {dd : List D}
/-- no defaults -/
theorem dfl0 (F : FunD K x qual params body scope [] kws f fd) (h : ∀ (kV doc pm : Value) (an : Option Addr) (cdv ct : Value) (us : List Value), us.length = ps.length → bindArgs (PySem.W.fnOf x qual params body scope .none kV doc pm an cdv ct) ⟨us, []⟩ = pure (ps.zip us)) : Dfl K T fd ps [] :=
  ⟨[], [], FunD.bindsN F h, .nil, fun _ => .nil⟩
/-- n written values, the defaults behind the first j fill up -/
theorem dfl1 (F : FunD K x qual params body scope dvs kws f fd) (n j : Nat) (hd : dvs ≠ []) (hn : n + (dvs.length - j) = ps.length) (hdd : ∀ F, IsL K T F (dvs.drop j) dd)
    (h : ∀ (T : Addr) (kV doc pm : Value) (an : Option Addr) (cdv ct : Value) (us its : List Value), us.length = n → its.length = dvs.length →
      ∃ k, bindArgs (PySem.W.fnOf x qual params body scope (.ref T) kV doc pm an cdv ct) ⟨us, []⟩ = seqItems? (.ref T) >>= k ∧ k (some its.toArray) = pure (ps.zip (us ++ its.drop j))) : Dfl K T fd ps dd := by
  obtain ⟨ds, v, b⟩ := FunD.binds1 F n j hd hn h
  exact ⟨ds, _, b, v, hdd⟩
/-- keyword-only parameters without defaults, all given -/
theorem kbn0 (F : FunD K x qual params body scope [] kws f fd) (n : Nat) (h : ∀ (kV doc pm : Value) (an : Option Addr) (cdv ct : Value) (us ws : List Value), us.length = n → ws.length = ks.length → bindArgs (PySem.W.fnOf x qual params body scope .none kV doc pm an cdv ct) ⟨us, ks.zip ws⟩ = pure (ps.zip (us ++ ws))) :
    KBn K fd ps n ks (fun us ws => us ++ ws) (fun vs zs => vs ++ zs) := by
  obtain ⟨oc, od, dV, kV, doc, pm, an, cdv, ct, osl, rfl, lk, hcd, hD, hK⟩ := F.ex
  rcases hD with ⟨_, rfl⟩ | ⟨e, _⟩
  · exact ⟨fun s us ws X l1 l2 => .of_eq (h kV doc pm an cdv ct us ws l1 l2), fun r1 r2 => r1.append r2⟩
  · exact absurd rfl e
end
theorem ct_len {Cs : List (Str × List Str)} {K : PySem.W.Frag} (h : (Cs.all fun C => decide (C.2.length < 1000)) = true) (c : Nat) : ((ctOf Cs K).fl c).length < 1000 := by
  cases e : Cs[c]? with
  | none => simp [ctOf, e]
  | some C =>
    have z := of_decide_eq_true (List.all_eq_true.mp h C (List.mem_of_getElem? e))
    simpa [ctOf, e] using z
theorem qLst_ref {T : Ct} {q : D → D → Option Bool} (d1 d2 : D) (b : Bool) (h : qLst q d1 d2 = some b) : (∀ K F v, Is K T F v d1 → ∃ a, v = .ref a) ∧ ∀ K F v, Is K T F v d2 → ∃ a, v = .ref a := by
  unfold qLst at h
  split at h
  · exact ⟨fun K F v i => by obtain ⟨a, _, e, _⟩ := i.lstI; exact ⟨a, e⟩, fun K F v i => by obtain ⟨a, _, e, _⟩ := i.lstI; exact ⟨a, e⟩⟩
  · cases h
theorem qTup_ref {T : Ct} {q : D → D → Option Bool} (d1 d2 : D) (b : Bool) (h : qTup q d1 d2 = some b) : (∀ K F v, Is K T F v d1 → ∃ a, v = .ref a) ∧ ∀ K F v, Is K T F v d2 → ∃ a, v = .ref a := by
  unfold qTup at h
  split at h
  · exact ⟨fun K F v i => by obtain ⟨a, _, e, _⟩ := i.tupI; exact ⟨a, e⟩, fun K F v i => by obtain ⟨a, _, e, _⟩ := i.tupI; exact ⟨a, e⟩⟩
  · cases h
/-- the rule of a def, with what its body may use -/
theorem fn_okE {P : Program} {w : World} {K : PySem.W.Frag} {mg : Str → Option Value} {base : Heap} {x qual : Str} {params : Arguments} {body : List Stmt} {scope : Scope} {dvs : List V} {kws : List (Str × V)} {f : Addr} {fd : FuncData} {T : Ct} {N ps : List Str} {k : Nat} {bs : List Nat} {fb : En → SOut}
    (Fd : FunD K x qual params body scope dvs kws f fd) (S : FnScope N ps scope) (hbs : (bs.all fun i => decide (i < ps.length)) = true)
    (hb : ∀ (cdv : Value) (A : Around) (outer : List Env) (s : Shared) (H : Hp) (E : XK) (X : Cx), X = cxOf (L2.CX P w) P w K mg base N qual scope f cdv A outer s H E → Room k X.A → Takes X (fun c dd _ H' => E c dd H') → PassesOwn (model X.prog X.w) X.A X.env X.xe →
      ZFs (cxOf (L2.CX P w) P w K mg base N qual scope f cdv A outer s H E) T (fun c dd _ H' => E c dd H') bs body fb) :
    FnOk P w K mg base (L2.CX P w) (k + 1) f fd ps (spM K T ps.length (mOf N.length bs fb)) :=
  fn_ok Fd S hbs fun cdv A outer s H E hr => hb cdv A outer s H E _ rfl hr (takes_of rfl rfl rfl rfl) (passes_of rfl)
/-- a def d of the program keeps the promise m at level k -/
def Got (P : Program) (w : World) (K : PySem.W.Frag) (mg : Str → Option Value) (base : Heap) (T : Ct) (d : Df) (k : Nat) (ps : List Str) (m : En → Out D) : Prop := ∃ fd, d.Ok K fd ∧ FnOk P w K mg base (L2.CX P w) k (adr K d.at_) fd ps (spM K T ps.length m)
end Ce
namespace Ce
open PySem PySem.Spec PyProof.Rows L2 Ce

/-! ### y = [e0, list(e1)]; y[1][ix] = rhs, where no other slot owns a thing -/
def frzO : Option O → Bool
  | some (.ol _) => false
  | some (.oi _ _) => false
  | _ => true
def sNest (i : Nat) (f0 : En → Out D) (fl : En → Out (List D)) (fr fi : En → Out D) : En → SOut := fun ρ => (f0 ρ).st fun d0 ρ1 => (fl ρ1).st fun xs ρ2 => if ρ2.all frzO && decide (i < ρ2.length) then
    (match fr (ρ2.set i (some (.im (.lst [d0, .lst xs])))) with
      | .ok (.int n) ρ4 => (match fi ρ4 with
        | .ok (.int k) _ => (match ixN xs.length k with
          | some j => .nx (ρ2.set i (some (.ol [d0, .lst (xs.set j (.int n))])))
          | none => .er)
        | _ => .er)
      | _ => .er) else .er
section
variable {K : PySem.W.Frag} {T : Ct} {B F H H' : Hp} {σ : L2.St} {ρ : En}
/-- where every slot is frozen, the state may be taken anew -/
theorem Wd.anew (w : Wd K T B F H σ ρ) (h : ρ.all frzO = true) {F' : Hp} (b : Same B H') (s : Same F F') (f : Same F' H') : Wd K T B F' H' σ ρ := by
  obtain ⟨φ, h1, h2, h3⟩ := w.o
  refine ⟨b, f, w.l, fun _ => [], fun i o e => ?_, fun i j a m => (by cases m), fun i a m => (by cases m)⟩
  obtain ⟨v, ev, q⟩ := h1 i o e
  have z := List.all_eq_true.mp h _ (List.mem_of_getElem? e)
  cases o with
  | im d => exact ⟨v, ev, .im (q.imI.mono s)⟩
  | ol ds => cases z
  | oi c ds => cases z
/-- two new objects are frozen -/
theorem Wd.cold (w : Wd K T B F H σ ρ) {F' : Hp} (s : Same F F') (f : Same F' H) (h : ρ.all frzO = true) : Wd K T B F' H σ ρ := by
  obtain ⟨φ, h1, h2, h3⟩ := w.o
  refine ⟨w.b, f, w.l, fun _ => [], fun i o e => ?_, fun i j a m => (by cases m), fun i a m => (by cases m)⟩
  obtain ⟨v, ev, q⟩ := h1 i o e
  have z := List.all_eq_true.mp h _ (List.mem_of_getElem? e)
  cases o with
  | im d => exact ⟨v, ev, .im (q.imI.mono s)⟩
  | ol ds => cases z
  | oi c ds => cases z
end
section
variable {X : Cx} {T : Ct} {W : WX} {bs : List Nat} {e0 e1 r ix : Expr} {f0 fr fi : En → Out D} {fl : En → Out (List D)} {i : Nat} {y : Str} {p p2 p3 pos pos2 : Pos} {rest : List Stmt} {gs : En → SOut} {el : Expr} {lp lp2 pos3 : Pos} {kc : Nat}
theorem st_sq {α : Type} {r : Out α} {k : α → En → SOut} {g : En → SOut} : (r.st k).sq g = r.st fun a ρ => (k a ρ).sq g := by cases r <;> rfl
theorem all_set {ρ : En} {i : Nat} {o : Option O} (h : ρ.all frzO = true) (ho : frzO o = true) : (ρ.set i o).all frzO = true := by
  rw [List.all_eq_true] at h ⊢
  intro x m
  rcases List.mem_or_eq_of_mem_set m with q | q
  · exact h x q
  · rw [q]; exact ho
theorem zs_nest (hN : X.N.Nodup) (hi : X.N[i]? = some y) (hx : Loc X.env.scope y) (h0 : PF X T W e0 f0) (hl : PN X T W el fl) (hr : PF X T W r fr) (hix : PF X T W ix fi) (hrest : ZFs X T W bs rest gs) (ho : ∀ {q : Pos}, PE X (.Name y q) (tVar i)) (hb : bs.contains i = false := by rfl)
    (hs0 : starEach [e0, el] X.env = (false, eval e0 X.env) :: starEach [el] X.env := by rfl) (hs1 : starEach [el] X.env = (false, eval el X.env) :: starEach [] X.env := by rfl)
    (hsw : swapsWith (.List [e0, el] lp) (some (.Name y p)) pos.line X.env = pure false := by rfl)
    (ha : ∀ v, assign (.Subscript (.Subscript (.Name y p2) (.Constant (.int 1) kc p3) pos2) ix lp2) X.env v = (do
      let ov ← holding [v] (eval (.Subscript (.Name y p2) (.Constant (.int 1) kc p3) pos2) X.env)
      let iv ← holding [v, ov] (eval ix X.env)
      standAt lp2
      holding [v, ov, iv] (setItem ov iv v)
      release [v, ov, iv] []) := by intro _; rfl) (hs : swapsWithSole [.Subscript (.Subscript (.Name y p2) (.Constant (.int 1) kc p3) pos2) ix lp2] r pos3.line X.env = pure false := by rfl)
    (hw : swappedStores [.Subscript (.Subscript (.Name y p2) (.Constant (.int 1) kc p3) pos2) ix lp2] r X.env = pure none := by rfl) (h1 : (assignEach [.Subscript (.Subscript (.Name y p2) (.Constant (.int 1) kc p3) pos2) ix lp2] X.env).map (·.2) = [assign (.Subscript (.Subscript (.Name y p2) (.Constant (.int 1) kc p3) pos2) ix lp2) X.env] := by rfl)
    (hpx : PlainIx (.Constant (.int 1) kc p3) := by intro _ _; rfl)
    (hf : X.fn y = true ∨ X.env.scope.names.lookup y = some .local := by first | exact .inl rfl | exact .inr rfl | assumption) :
    ZFs X T W bs (.Assign [.Name y p] (.List [e0, el] lp) pos :: .Assign [.Subscript (.Subscript (.Name y p2) (.Constant (.int 1) kc p3) pos2) ix lp2] r pos3 :: rest) (sCons (sNest i f0 fl fr fi) gs) := by
  obtain ⟨t0, ht0, hp0⟩ := h0
  obtain ⟨tl, htl, hpl⟩ := hl
  obtain ⟨tr, htr, hpr⟩ := hr
  obtain ⟨ti, hti, hpi⟩ := hix
  obtain ⟨tg, htg, hpg⟩ := hrest
  refine ⟨_, pss_cons (ps_set hN hi hx (pe_lst (pa_cons ht0 (pa_cons htl pa_nil hs1) hs0)) hsw hf) (pss_cons (ps_asg htr (pg_sub (pe_ix ix_list ho pe_int hpx) hti set_list ha) hs hw h1) htg), fun B F H σ ρ E w q => ?_⟩
  have q : PostS X.K T W bs B F σ ((f0 ρ).st fun d0 ρ1 => (fl ρ1).st fun xs ρ2 => (if ρ2.all frzO && decide (i < ρ2.length) then
    (match fr (ρ2.set i (some (.im (.lst [d0, .lst xs])))) with
      | .ok (.int n) ρ4 => (match fi ρ4 with
        | .ok (.int k) _ => (match ixN xs.length k with
          | some j => SOut.nx (ρ2.set i (some (.ol [d0, .lst (xs.set j (.int n))])))
          | none => .er)
        | _ => .er)
      | _ => .er) else .er).sq gs) E := by
    unfold sCons sNest at q
    rw [st_sq] at q
    simp only [st_sq] at q
    exact q
  refine hp0 B F H σ ρ _ w (PostS.ofP q fun d0 ρ1 F1 H1 v0 g1 w1 i1 q1 => ?_)
  refine hpl B F1 H1 σ ρ1 _ w1 (PostS.ofX q1 fun xs ρ2 q2 F2 H2 b vs g2 bb fb w2 l2 => ?_)
  refine ⟨by show 2 ≤ sizeLine; decide, fun a hfa => ?_⟩
  split at q2
  · rename_i hfz
    rw [Bool.and_eq_true] at hfz
    obtain ⟨hfz, hlen⟩ := hfz
    have hlen := of_decide_eq_true hlen
    have hbH : H2 b = some (.lst vs) := w2.b _ _ upd_same
    have w2' : Wd X.K T B F2 H2 σ ρ2 := w2.less (same_upd bb)
    obtain ⟨fa, ba⟩ := w2'.nofree hfa
    have nab : a ≠ b := fun z => by rw [z, hbH] at hfa; cases hfa
    -- everything frozen, both objects kept
    have w3 : Wd X.K T (upd (upd B b (.lst vs)) a (.lst [v0, .ref b])) (upd (upd F2 b (.lst vs)) a (.lst [v0, .ref b])) (upd H2 a (.lst [v0, .ref b])) σ ρ2 := by
      have z := w2.fresh (u := .lst [v0, .ref b]) hfa
      refine z.cold (((same_upd fb)).trans (same_upd ?_)) (same_upd2 fun c o e => ?_) hfz
      · rw [upd_ne nab]; exact fa
      · by_cases y : c = b
        · subst y; rw [upd_same] at e; cases e; exact hbH
        · rw [upd_ne y] at e; exact w2.f _ _ e
    have sF : Same F2 (upd (upd F2 b (.lst vs)) a (.lst [v0, .ref b])) := (same_upd fb).trans (same_upd (by rw [upd_ne nab]; exact fa))
    have iv : Is X.K T (upd (upd F2 b (.lst vs)) a (.lst [v0, .ref b])) (.ref a) (.lst [d0, .lst xs]) := .lst (SqL.of upd_same) (.cons (i1.mono (g2.s.trans sF)) (.cons (.lst (SqL.of (by rw [upd_ne (Ne.symm nab)]; exact upd_same)) (l2.mono sF)) .nil))
    have hil : i < σ.length := by rw [w2.l]; exact hlen
    have w4 := w3.putIm iv hil
    have hev : (σ.set i (some (.ref a)))[i]? = some (some (.ref a)) := List.getElem?_set_self hil
    split at q2
    · rename_i n ρ4 e4
      split at q2
      · rename_i k ρ5 e5
        split at q2
        · rename_i j ej
          refine hpr _ _ _ _ _ _ w4 ?_
          rw [e4]
          intro F5 H5 vr g5 w5 ir
          have hb5 : H5 b = some (.lst vs) := w5.b _ _ (by rw [upd_ne (Ne.symm nab)]; exact upd_same)
          have ha5 : H5 a = some (.lst [v0, .ref b]) := w5.b _ _ upd_same
          refine ⟨_, hev, a, [v0, .ref b], 1, .ref b, rfl, rfl, SqL.of ha5, rfl, ?_⟩
          refine hpi _ _ _ _ _ _ w5 ?_
          rw [e5]
          intro F6 H6 vk g6 w6 ik
          have hb6 : H6 b = some (.lst vs) := w6.b _ _ (by rw [upd_ne (Ne.symm nab)]; exact upd_same)
          have ha6 : H6 a = some (.lst [v0, .ref b]) := w6.b _ _ upd_same
          refine ⟨b, vs, k, j, rfl, ik.intI, hb6, by rw [l2.length]; exact ej, ?_⟩
          have e6 : vr = .int n := ir.intI
          subst e6
          -- the frozen part taken anew
          have s26 : Same F2 H6 := fun c o e => w6.f _ _ (g6.s _ _ (g5.s _ _ (sF _ _ e)))
          have gB : Gw B F2 (upd F2 b (.lst (vs.set j (.int n)))) := ⟨same_upd fb, fun c o e => by
            by_cases y : c = b
            · subst y; exact .inr bb
            · rw [upd_ne y] at e; exact .inl e⟩
          have wz : Wd X.K T B (upd F2 b (.lst (vs.set j (.int n)))) (upd H6 b (.lst (vs.set j (.int n)))) σ ρ2 := by
            refine w2'.anew hfz (fun c o e => ?_) gB.s (same_upd2 s26)
            have nc : c ≠ b := fun z => by rw [z, bb] at e; cases e
            have nca : c ≠ a := fun z => by rw [z, ba] at e; cases e
            rw [upd_ne nc]
            exact w6.b _ _ (by rw [upd_ne nca, upd_ne nc]; exact e)
          refine hpg B _ _ _ _ E (?_ : Wd X.K T B (upd F2 b (.lst (vs.set j (.int n)))) _ _ (ρ2.set i (some (.ol [d0, .lst (xs.set j (.int n))])))) (PostS.gw q2 (g2.trans gB) (Kp.set hb))
          refine wz.put (i := i) (fp := [a]) (.ol (vs := [v0, .ref b]) ?_ ?_) hil (fun c m => ?_) fun j' c m hj' o' w' fq e' ex' q' => ?_
          · rw [upd_ne nab]; exact ha6
          · exact .cons (i1.mono (g2.s.trans gB.s)) (.cons (.lst (SqL.of upd_same) ((l2.mono gB.s).set (.int n) j)) .nil)
          · simp at m
            subst m
            exact ⟨by rw [upd_ne nab]; exact fa, ba⟩
          · have z := List.all_eq_true.mp hfz _ (List.mem_of_getElem? e')
            cases o' with
            | im d => cases q'; simp
            | ol ds => cases z
            | oi c ds => cases z
        · exact q2.elim
      · exact q2.elim
    · exact q2.elim
  · exact q2.elim
end
end Ce
namespace Ce
open PySem PySem.Spec PyProof.Rows L2 Ce

/-! ### a comprehension over a list that a slot owns: the slot rests meanwhile -/
section
variable {K : PySem.W.Frag} {T : Ct} {B F H : Hp} {σ : L2.St} {ρ : En} {i : Nat} {ds : List D}
theorem Wd.hide (w : Wd K T B F H σ ρ) (e : ρ[i]? = some (some (.ol ds))) : ∃ a vs, σ[i]? = some (some (.ref a)) ∧ H a = some (.lst vs) ∧ IsL K T F vs ds ∧ F a = none ∧ B a = none ∧ Wd K T (upd B a (.lst vs)) F H σ (ρ.set i none) := by
  obtain ⟨φ, h1, h2, h3⟩ := id w.o
  obtain ⟨v, ev, q⟩ := h1 i _ e
  obtain ⟨a, vs, rfl, ef, ha, l⟩ := q.olI
  have am : a ∈ φ i := by rw [ef]; simp
  obtain ⟨_, fa, ba⟩ := h3 i a am
  have ne : ∀ j o, (ρ.set i none)[j]? = some (some o) → j ≠ i ∧ ρ[j]? = some (some o) := fun j o e => by
    by_cases z : i = j
    · subst z
      by_cases hl : i < ρ.length
      · rw [List.getElem?_set_self hl] at e; cases e
      · rw [List.getElem?_eq_none (by simpa using hl)] at e; cases e
    · rw [List.getElem?_set_ne z] at e
      exact ⟨Ne.symm z, e⟩
  refine ⟨a, vs, ev, ha, l, fa, ba, fun b o eb => ?_, w.f, by simpa using w.l, fset φ i [], fun j o eo => ?_, fun j k b => ?_, fun j b => ?_⟩
  · by_cases z : b = a
    · subst z; rw [upd_same] at eb; cases eb; exact ha
    · rw [upd_ne z] at eb; exact w.b _ _ eb
  · obtain ⟨z, eo⟩ := ne j o eo
    obtain ⟨x, ex, qx⟩ := h1 j o eo
    exact ⟨x, ex, by rw [fset_ne z]; exact qx⟩
  · by_cases z : j = i
    · subst z; rw [fset_same]; intro m; cases m
    · rw [fset_ne z]
      by_cases y : k = i
      · subst y; rw [fset_same]; intro _ m; cases m
      · rw [fset_ne y]; exact h2 j k b
  · by_cases z : j = i
    · subst z; rw [fset_same]; intro m; cases m
    · rw [fset_ne z]
      intro m
      obtain ⟨⟨o, eo⟩, y, x⟩ := h3 j b m
      have nb : b ≠ a := fun q => by subst q; exact z (h2 j i b m am)
      exact ⟨⟨o, by rw [List.getElem?_set_ne (Ne.symm z)]; exact eo⟩, y, by rw [upd_ne nb]; exact x⟩
theorem Wd.unhide {a : Addr} {vs : List V} (w : Wd K T (upd B a (.lst vs)) F H σ ρ) (ev : σ[i]? = some (some (.ref a))) (l : IsL K T F vs ds) (fa : F a = none) (ba : B a = none) : Wd K T B F H σ (ρ.set i (some (.ol ds))) := by
  have hi : i < σ.length := (List.getElem?_eq_some_iff.mp ev).1
  have z := w.give ba fa l hi
  have y : σ.set i (some (.ref a)) = σ := by
    apply List.ext_getElem?
    intro j
    by_cases h : i = j
    · subst h
      rw [List.getElem?_set_self hi, ev]
    · rw [List.getElem?_set_ne h]
  rw [y] at z
  exact z
end
theorem upd_comm {B : Hp} {a b : Addr} {u v : HO} (h : a ≠ b) : upd (upd B a u) b v = upd (upd B b v) a u := by
  funext c
  by_cases z : c = b
  · subst z
    rw [upd_same, upd_ne (Ne.symm h), upd_same]
  · rw [upd_ne z]
    by_cases y : c = a
    · subst y; rw [upd_same, upd_same]
    · rw [upd_ne y, upd_ne y, upd_ne z]
def nLcH (i : Nat) (g : D → En → Option En) (ft : En → Out Bool) (fe : En → Out D) (vs : List Nat) : En → Out (List D) := fun ρ => match ρ[i]? with
  | some (some (.ol ds)) => (match lcL g ft fe vs ds [] (wipeE (ρ.set i none) vs) with
    | .ok acc ρ2 => .ok acc ((restE (ρ.set i none) vs ρ2).set i (some (.ol ds)))
    | _ => .er)
  | _ => .er
section
variable {X : Cx} {T : Ct} {W : WX} {bs ts : List Nat} {elt tg iter c : Expr} {ifs : List Expr} {scope : Scope} {vz : List Nat} {own : List (Str × Nat)} {pos spos py : Pos} {g : D → En → Option En} {ft : En → Out Bool} {fe : En → Out D} {i n : Nat} {y : Str}
theorem lcH_read (tt : TT) {vs : List Nat} (htt : ∀ B F H σ ρ Q, Wd X.K T B F H σ ρ → Post X.K T noW B F σ RB (ft ρ) Q → tt σ H Q) (hts : (ts.all fun i => vs.contains i) = true) {B F H : Hp} {σ : L2.St} {ρ : En} {Q : VK} (w : Wd X.K T B F H σ ρ) (q : PostN X.K T W B F σ (nLcH i g ft fe vs ρ) Q) :
    tLc (iList X.K (tVar i)) (tGF X.K T ts g) tt (tPF X.K T noW fe) vs σ H Q := by
  unfold nLcH at q
  split at q
  · rename_i ds e
    obtain ⟨a, us, ev, ha, l, fa, ba, w1⟩ := w.hide e
    refine ⟨_, ev, a, rfl, ⟨us, SqL.of ha⟩, fun D hD => ?_⟩
    split at q
    · rename_i out ρ2 e2
      refine lc_ok (ts := ts) (T := T) (B := upd B a (.lst us)) (F := F) (ds := ds) (G := fun H => SqL X.K H a us) (Y := YAt us) tt htt hts w1 Gw.refl (l.length ▸ walk_list) (fun H2 _ sb => SqL.of (sb _ _ upd_same)) (came_at l) e2 ?_ D hD
      intro F' H' D' ws g' bD fD w' l'
      have nD : a ≠ D' := fun z => by rw [z, upd_same] at bD; cases bD
      rw [upd_ne (Ne.symm nD)] at bD
      have fa' : F' a = none := by
        cases z : F' a with
        | none => rfl
        | some u =>
          rcases g'.n a u z with y | y
          · rw [fa] at y; cases y
          · rw [upd_same] at y; cases y
      refine q F' H' D' ws (g'.less (same_upd ba)) bD fD ?_ l'
      rw [upd_comm nD] at w'
      exact w'.unhide ev (l.mono g'.s) fa' (by rw [upd_ne nD]; exact ba)
    · exact q.elim
  · exact q.elim
theorem pn_lcH0 (hc : X.calm = true) (hN : X.N.Nodup) (hi : PE X iter (tVar i)) (ok : BlkOk X.N X.env.scope scope own) (hg : ∀ (s : Shared) (H : Hp) (C : Addr) (cl : List (Str × Addr)) (fp : List Addr), GF (X.blk s H scope (compEnvC scope cl C X.env) fp) T ts tg g)
    (he : ∀ (s : Shared) (H : Hp) (C : Addr) (cl : List (Str × Addr)) (fp : List Addr), PF (X.blk s H scope (compEnvC scope cl C X.env) fp) T noW elt fe) (hvs : own.map (·.2) = vz := by rfl) (hts : (ts.all fun i => (own.map (·.2)).contains i) = true := by rfl) (hs : ∀ x, foldedSetIterable iter X.env x = pure x := by intro _; rfl) :
    PN X T W (.ListComp elt [⟨tg, iter, [], 0⟩] scope pos) (nLcH i g always fe vz) := by
  subst hvs
  exact ⟨_, pe_lc hc hN (pi_list hi) ok (g := tGF X.K T ts g) (tt := tYes) (te := tPF X.K T noW fe) (fun s H C cl fp => (hg s H C cl fp).pg) (fun s H C cl fp => pts_nil) (fun s H C cl fp => (he s H C cl fp).pe) hs, fun B F H σ ρ Q w q => lcH_read (ft := always) tYes (fun B F H σ ρ Q w q => q F H true Gw.refl w rfl) hts w q⟩
theorem z_setLcH0 (hc : X.calm = true) (hN : X.N.Nodup) (hy : X.N[n]? = some y) (hyl : X.env.scope.names.lookup y = some .local) (hsw : swapsWith (.ListComp elt [⟨tg, iter, [], 0⟩] scope pos) (some (.Name y py)) spos.line X.env = pure true)
    (hi : PE X iter (tVar i)) (ok : BlkOk X.N X.env.scope scope own) (hg : ∀ (s : Shared) (H : Hp) (C : Addr) (cl : List (Str × Addr)) (fp : List Addr), GF (X.blk s H scope (compEnvC scope cl C X.env) fp) T ts tg g)
    (he : ∀ (s : Shared) (H : Hp) (C : Addr) (cl : List (Str × Addr)) (fp : List Addr), PF (X.blk s H scope (compEnvC scope cl C X.env) fp) T noW elt fe) (hb : bs.contains n = false := by rfl) (hvs : own.map (·.2) = vz := by rfl) (hts : (ts.all fun i => (own.map (·.2)).contains i) = true := by rfl) (hs : ∀ x, foldedSetIterable iter X.env x = pure x := by intro _; rfl) :
    ZF X T W bs (.Assign [.Name y py] (.ListComp elt [⟨tg, iter, [], 0⟩] scope pos) spos) (sSetN n (nLcH i g always fe vz)) := by
  subst hvs
  exact ⟨_, ps_setLc hc hN hy hyl hsw (pi_list hi) ok (g := tGF X.K T ts g) (tt := tYes) (te := tPF X.K T noW fe) (fun s H C cl fp => (hg s H C cl fp).pg) (fun s H C cl fp => pts_nil) (fun s H C cl fp => (he s H C cl fp).pe) hs, fun B F H σ ρ E w q => lcH_read (ft := always) tYes (fun B F H σ ρ Q w q => q F H true Gw.refl w rfl) hts w (setN_post hb q)⟩
end
end Ce
namespace Ce
open PySem PySem.Spec PyProof.Rows L2 Ce

/-! ### the end of a law -/
theorem ints_is {K : PySem.W.Frag} {T : Ct} {F : Hp} : ∀ ns : List Int, IsL K T F (ns.map V.int) (ns.map D.int)
  | [] => .nil
  | n :: ns => .cons (.int n) (ints_is ns)
theorem spM_law {K : PySem.W.Frag} {T : Ct} {m : En → Out D} {a : Addr} {ns : List Int} {H : Hp} (hS : SqL K H a (ns.map V.int)) (h : ∃ ρ, m [some (.im (.lst (ns.map D.int)))] = .ok (.bl true) ρ) : spM K T 1 m [.ref a] H (fun v _ => v = .bl true) noE := by
  obtain ⟨ρ, e⟩ := h
  have w0 : Wd K T H H H [] [] := ⟨Same.refl H, Same.refl H, rfl, fun _ => [], fun i o z => by simp at z, fun i j a z => (by cases z), fun i a z => (by cases z)⟩
  refine ⟨rfl, H, H, [some (.im (.lst (ns.map D.int)))], wd_args (vs := [.ref a]) (ds := [.lst (ns.map D.int)]) w0 (.cons (.lst hS (ints_is ns)) .nil), ?_⟩
  rw [e]
  exact fun F' H' v g w' i => i.blI
/-- a def's record is one -/
theorem fd_one {K : PySem.W.Frag} {x x' q q' : Str} {p p' : Arguments} {b b' : List Stmt} {sc sc' : Scope} {dv dv' : List V} {kw kw' : List (Str × V)} {f : Addr} {fd fd' : FuncData} (h : FunD K x q p b sc dv kw f fd) (h' : FunD K x' q' p' b' sc' dv' kw' f fd') : fd = fd' := by
  obtain ⟨_, _, _, _, _, _, _, _, _, _, _, l, _⟩ := h.ex
  obtain ⟨_, _, _, _, _, _, _, _, _, _, _, l', _⟩ := h'.ex
  rw [l] at l'
  simp only [Option.some.injEq, Obj.mk.injEq, Data.func.injEq] at l'
  exact l'.2.2.1
theorem walk_end {l : PySem.W.OpenLaw} {n k : Nat} {q : Program} {loose : List Str} {XP : (Str → Option Value) → Heap → Prop} {YP : World → Heap → Prop} {d : DefRec} {x : Str} (hn : l.most = some n) (hn2 : n ≤ sizeLine) (hdf : d.params.defaults = []) (hr : Room k callerA)
    (F : ∀ (w : World) (mg : Str → Option Value) (fa : Addr) (h : Heap), YP w h → h.Ns mainGlobals mg → mg d.name = some (.ref fa) →
      ∃ (K : PySem.W.Frag) (fd : FuncData) (sp : Sp), K.In h ∧ (∀ (s : Shared) (u : Value), BindsTo s fd ⟨[u], []⟩ [(x, u)]) ∧
        (∀ (H : Hp) (a : Addr) (ns : List Int), ns.length ≤ n → (∀ z ∈ ns, Builtin.Int.intBits z ≤ 1048576) → SqL K H a (ns.map V.int) → sp [.ref a] H (fun v _ => v = .bl true) noE) ∧
        ∀ base : Heap, K.In base → base.Ns mainGlobals mg → FnOk l.prog w K mg base (L2.CX l.prog w) k fa fd [x] sp) :
    PySem.W.WalkO q loose XP YP l.row.toRowW d [] (fun f vs => PySem.call f vs) := by
  refine Att.attach_callB hn hdf fun w s₀ s₁ mg mb fa o pm cd doc a vs ns G Y ho hd hcd hmg hobj hints hlen hbits hg => ?_
  obtain ⟨K, fd, sp, KX, hb, hsp, hF⟩ := F w mg fa _ Y G.T.g hmg
  refine law_call KX G.T.g G.T.b G.T.builtins G.T.nolimit hg hobj hints (Nat.le_trans hlen hn2) hr hF hb (fun H hO hS => hsp H a ns hlen hbits hS) fun H e s' c => ?_
  obtain ⟨_, _, _, _, _, _, _, _, _, _, _, _, z⟩ := c
  exact z.elim
end Ce
namespace Ce

/-! ### sizes -/
theorem log2_of {n k : Nat} (h : n ≤ 2 ^ k) : n.log2 ≤ k := by
  by_cases z : n = 0
  · subst z; simp
  · have := (Nat.log2_lt z).mpr (Nat.lt_of_le_of_lt h (Nat.pow_lt_pow_right (a := 2) (m := k) (n := k + 1) (by omega) (by omega)))
    omega
/-- at most 2 ^ k -/
def nb (i : Int) (k : Nat) : Prop := i.natAbs ≤ 2 ^ k
theorem nb.mono {i : Int} {j k : Nat} (h : nb i j) (l : j ≤ k) : nb i k := Nat.le_trans h (Nat.pow_le_pow_right (by omega) l)
theorem nb.mul {i j : Int} {a b : Nat} (h : nb i a) (h' : nb j b) : nb (i * j) (a + b) := by
  unfold nb at *
  rw [Int.natAbs_mul, Nat.pow_add]
  exact Nat.mul_le_mul h h'
theorem nb.add {i j : Int} {a : Nat} (h : nb i a) (h' : nb j a) : nb (i + j) (a + 1) := by
  unfold nb at *
  have := Int.natAbs_add_le i j
  rw [Nat.pow_succ]
  omega
theorem nb.neg {i : Int} {a : Nat} (h : nb i a) : nb (-i) a := by
  unfold nb at *
  rwa [Int.natAbs_neg]
theorem nb.sub {i j : Int} {a : Nat} (h : nb i a) (h' : nb j a) : nb (i - j) (a + 1) := by
  rw [Int.sub_eq_add_neg]
  exact h.add h'.neg
theorem mulOk_nb {i j : Int} {a b : Nat} (h : nb i a) (h' : nb j b) (l : a + b < 100000000) : mulOk i j = true := by
  refine decide_eq_true ?_
  have := log2_of h
  have := log2_of h'
  omega
theorem divOk_nb {j : Int} {b : Nat} (h0 : j ≠ 0) (h : nb j b) (l : b < 9000) : divOk j = true := by
  refine Bool.and_eq_true_iff.mpr ⟨decide_eq_true h0, decide_eq_true ?_⟩
  have := log2_of h
  omega
/-! ### fractions -/
/-- the divisor of Fraction(n, d) -/
def sgcd (n d : Int) : Int := if d < 0 then -((Nat.gcd n.natAbs d.natAbs : Nat) : Int) else ((Nat.gcd n.natAbs d.natAbs : Nat) : Int)
theorem sgcd_ne {n d : Int} (h : d ≠ 0) : sgcd n d ≠ 0 := by
  have : Nat.gcd n.natAbs d.natAbs ≠ 0 := fun z => by
    have := Nat.eq_zero_of_gcd_eq_zero_right z
    omega
  unfold sgcd
  split <;> omega
theorem sgcd_nb {n d : Int} {k : Nat} (h : d ≠ 0) (b : nb d k) : nb (sgcd n d) k := by
  have l : Nat.gcd n.natAbs d.natAbs ≤ d.natAbs := Nat.le_of_dvd (by omega) (Nat.gcd_dvd_right _ _)
  unfold nb at *
  unfold sgcd
  split <;> simp <;> omega
theorem sgcd_dvdl {n d : Int} : sgcd n d ∣ n := by
  have : ((Nat.gcd n.natAbs d.natAbs : Nat) : Int) ∣ n := Int.ofNat_dvd_left.mpr (Nat.gcd_dvd_left _ _)
  unfold sgcd
  split
  · exact Int.neg_dvd.mpr this
  · exact this
theorem sgcd_dvdr {n d : Int} : sgcd n d ∣ d := by
  have : ((Nat.gcd n.natAbs d.natAbs : Nat) : Int) ∣ d := Int.ofNat_dvd_left.mpr (Nat.gcd_dvd_right _ _)
  unfold sgcd
  split
  · exact Int.neg_dvd.mpr this
  · exact this
theorem frac_num {n d : Int} (h : d ≠ 0) : n.fdiv (sgcd n d) = (Rat.divInt n d).num := by
  rw [Rat.num_divInt, Int.fdiv_eq_ediv_of_dvd sgcd_dvdl]
  have e : ((d.gcd n : Nat) : Int) = ((Nat.gcd n.natAbs d.natAbs : Nat) : Int) := by
    rw [Int.gcd_comm]; rfl
  rw [e]
  have dv : ((Nat.gcd n.natAbs d.natAbs : Nat) : Int) ∣ n := Int.ofNat_dvd_left.mpr (Nat.gcd_dvd_left _ _)
  unfold sgcd
  split
  · rename_i hd
    rw [Int.sign_eq_neg_one_of_neg hd, Int.ediv_neg, Int.neg_mul, Int.one_mul, Int.neg_ediv_of_dvd dv]
  · have : d.sign = 1 := Int.sign_eq_one_of_pos (by omega)
    rw [this, Int.one_mul]
theorem frac_den {n d : Int} (h : d ≠ 0) : d.fdiv (sgcd n d) = ((Rat.divInt n d).den : Int) := by
  rw [Rat.den_divInt, if_neg h, Int.fdiv_eq_ediv_of_dvd sgcd_dvdr]
  have e : d.gcd n = Nat.gcd n.natAbs d.natAbs := by
    rw [Int.gcd_comm]; rfl
  rw [e, Int.natCast_ediv]
  have dv : ((Nat.gcd n.natAbs d.natAbs : Nat) : Int) ∣ d := Int.ofNat_dvd_left.mpr (Nat.gcd_dvd_right _ _)
  unfold sgcd
  split
  · rename_i hd
    rw [Int.ediv_neg, show ((d.natAbs : Nat) : Int) = -d by omega, Int.neg_ediv_of_dvd dv]
  · rw [show ((d.natAbs : Nat) : Int) = d by omega]
/-- a fraction as the program has it -/
def fr (q : Rat) : D := .ins 0 [.int q.num, .int q.den]
/-- num and den below 2 ^ k -/
def qb (q : Rat) (a d : Nat) : Prop := nb q.num a ∧ nb q.den d
theorem den_le {n d : Int} (h : d ≠ 0) : ((Rat.divInt n d).den : Int).natAbs ≤ d.natAbs := by
  rw [Rat.den_divInt, if_neg h]
  simp only [Int.natAbs_natCast]
  exact Nat.div_le_self _ _
theorem num_le {n d : Int} (h : d ≠ 0) : (Rat.divInt n d).num.natAbs ≤ n.natAbs := by
  rw [← frac_num h, Int.fdiv_eq_ediv_of_dvd sgcd_dvdl]
  exact Int.natAbs_ediv_le_natAbs _ _
theorem qb_divInt {n d : Int} {a k : Nat} (h : d ≠ 0) (hn : nb n a) (hd : nb d k) : qb (Rat.divInt n d) a k :=
  ⟨Nat.le_trans (num_le h) hn, Nat.le_trans (den_le h) hd⟩
theorem den_ne (q : Rat) : (q.den : Int) ≠ 0 := by
  have := q.den_nz
  omega
theorem add_divInt (p q : Rat) : Rat.divInt (p.num * q.den + q.num * p.den) (p.den * q.den) = p + q := by
  rw [← Rat.divInt_add_divInt _ _ (den_ne p) (den_ne q), Rat.num_divInt_den, Rat.num_divInt_den]
theorem mul_divInt (p q : Rat) : Rat.divInt (p.num * q.num) (p.den * q.den) = p * q := by
  rw [← Rat.divInt_mul_divInt, Rat.num_divInt_den, Rat.num_divInt_den]
theorem sub_divInt (p q : Rat) : Rat.divInt (p.num * q.den - q.num * p.den) (p.den * q.den) = p - q := by
  rw [Rat.sub_eq_add_neg, ← add_divInt p (-q), Rat.neg_num, Rat.neg_den, Int.neg_mul, Int.sub_eq_add_neg]
theorem neg_divInt (p : Rat) : Rat.divInt (-p.num) p.den = -p := by
  rw [← Rat.neg_divInt, Rat.num_divInt_den]
theorem div_divInt (p q : Rat) (h : q ≠ 0) : Rat.divInt (p.num * q.den) (p.den * q.num) = p / q := by
  rw [← Rat.divInt_mul_divInt, Rat.num_divInt_den, Rat.div_def]
  rw [Rat.inv_def]
theorem qb_add {p q : Rat} {a d b e c : Nat} (h : qb p a d) (h' : qb q b e) (l1 : a + e ≤ c) (l2 : b + d ≤ c) : qb (p + q) (c + 1) (d + e) := by
  rw [← add_divInt]
  exact qb_divInt (Int.mul_ne_zero (den_ne p) (den_ne q)) (((h.1.mul h'.2).mono l1).add ((h'.1.mul h.2).mono l2)) (h.2.mul h'.2)
theorem qb_mul {p q : Rat} {a d b e : Nat} (h : qb p a d) (h' : qb q b e) : qb (p * q) (a + b) (d + e) := by
  rw [← mul_divInt]
  exact qb_divInt (Int.mul_ne_zero (den_ne p) (den_ne q)) (h.1.mul h'.1) (h.2.mul h'.2)
theorem qb_neg {p : Rat} {a d : Nat} (h : qb p a d) : qb (-p) a d := by
  unfold qb at *
  rw [Rat.neg_num, Rat.neg_den]
  exact ⟨h.1.neg, h.2⟩
theorem num_ne {q : Rat} (h : q ≠ 0) : q.num ≠ 0 := fun z => h (Rat.num_eq_zero.mp z)
theorem qb_div {p q : Rat} {a d b e : Nat} (h : qb p a d) (h' : qb q b e) (hq : q ≠ 0) : qb (p / q) (a + e) (d + b) := by
  rw [← div_divInt p q hq]
  exact qb_divInt (Int.mul_ne_zero (den_ne p) (num_ne hq)) (h.1.mul h'.2) (h.2.mul h'.1)
theorem qb_int {i : Int} {a : Nat} (h : nb i a) : qb (i : Rat) a 0 := by
  refine ⟨by rw [Rat.num_intCast]; exact h, ?_⟩
  rw [Rat.den_intCast]
  exact Nat.le_refl _
theorem qb.mono {q : Rat} {a d b e : Nat} (h : qb q a d) (l : a ≤ b) (l' : d ≤ e) : qb q b e := ⟨h.1.mono l, h.2.mono l'⟩
theorem divInt_one (n : Int) : Rat.divInt n 1 = (n : Rat) := by
  have z := Rat.num_divInt_den (n : Rat)
  rw [Rat.num_intCast, Rat.den_intCast] at z
  exact z
theorem fr_inj {p q : Rat} : fr p = fr q ↔ p = q := by
  constructor
  · intro h
    unfold fr at h
    simp only [D.ins.injEq, List.cons.injEq, D.int.injEq, true_and, and_true] at h
    exact Rat.ext h.1 (by exact_mod_cast h.2)
  · rintro rfl; rfl
/-! ### loops -/
theorem forL_inv {g : D → En → Option En} {b : En → SOut} (P : Nat → En → Prop) : ∀ (ds : List D) (k : Nat) (ρ : En), P k ρ → (∀ i d ρ, ds[i]? = some d → P (k + i) ρ → ∃ ρ1 ρ2, g d ρ = some ρ1 ∧ b ρ1 = .nx ρ2 ∧ P (k + i + 1) ρ2) → ∃ ρ', forL g b ds ρ = .nx ρ' ∧ P (k + ds.length) ρ'
  | [], k, ρ, h0, h => ⟨ρ, rfl, h0⟩
  | d :: ds, k, ρ, h0, h => by
    obtain ⟨ρ1, ρ2, e1, e2, h2⟩ := h 0 d ρ rfl h0
    obtain ⟨ρ', e3, h3⟩ := forL_inv P ds (k + 1) ρ2 h2 fun i d' ρ e p => by
      have z := h (i + 1) d' ρ (by simpa using e) (by rw [show k + (i + 1) = k + 1 + i by omega]; exact p)
      rw [show k + (i + 1) + 1 = k + 1 + i + 1 by omega] at z
      exact z
    refine ⟨ρ', ?_, by rw [List.length_cons, show k + (ds.length + 1) = k + 1 + ds.length by omega]; exact h3⟩
    rw [forL, e1]
    simp only [e2]
    exact e3
theorem sCons_nx {f g : En → SOut} {ρ ρ1 : En} (h : f ρ = .nx ρ1) : sCons f g ρ = g ρ1 := by
  unfold sCons
  rw [h]
  rfl
theorem sCons_rt {f g : En → SOut} {ρ ρ1 : En} {d : D} (h : f ρ = .rt d ρ1) : sCons f g ρ = .rt d ρ1 := by
  unfold sCons
  rw [h]
  rfl
theorem atI_nat {α : Type} (xs : List α) (n : Nat) : L2.atI xs (n : Int) = xs[n]? := by
  unfold L2.atI L2.ixN
  by_cases h : n < xs.length
  · rw [if_pos (by omega), if_pos (by omega)]
    simp
  · rw [if_pos (by omega), if_neg (by omega)]
    simp
    omega
end Ce
set_option maxHeartbeats 0
namespace K74
open PySem PySem.Spec PyProof.Rows L2 Ce
def top (i : Nat) : Stmt := PySem.Challenge.pw_certsums_k74_different_rows_accepted.main.body.getD i (.Pass ⟨0, 0, 0, 0⟩)
def mem (i j : Nat) : Stmt := (C8.clsBody (top i)).getD j (.Pass ⟨0, 0, 0, 0⟩)
abbrev cls : List (Str × List Str) := [((PySem.Str.ofString "Fraction"), [(PySem.Str.ofString "num"), (PySem.Str.ofString "den")]), ((PySem.Str.ofString "Poly"), [(PySem.Str.ofString "coefs"), (PySem.Str.ofString "den")]), ((PySem.Str.ofString "Poly2"), [(PySem.Str.ofString "rows")]), ((PySem.Str.ofString "Quotient"), [(PySem.Str.ofString "num"), (PySem.Str.ofString "den")]), ((PySem.Str.ofString "Operator"), [(PySem.Str.ofString "coefs")]), ((PySem.Str.ofString "Row"), [(PySem.Str.ofString "operator"), (PySem.Str.ofString "initial")])]
abbrev T (K : PySem.W.Frag) : Ct := ctOf cls K
def ft_coefs : Nat → Option Nat := fun c => match c with
  | 1 => some 0
  | 4 => some 0
  | _ => none
def ft_den : Nat → Option Nat := fun c => match c with
  | 0 => some 1
  | 1 => some 1
  | 3 => some 1
  | _ => none
def ft_operator : Nat → Option Nat := fun c => match c with
  | 5 => some 0
  | _ => none
def ft_initial : Nat → Option Nat := fun c => match c with
  | 5 => some 1
  | _ => none
def ft_num : Nat → Option Nat := fun c => match c with
  | 0 => some 0
  | 3 => some 0
  | _ => none
def ft_rows : Nat → Option Nat := fun c => match c with
  | 2 => some 0
  | _ => none
def d__law_numbers : Df := ⟨.g (PySem.Str.ofString "_law_numbers"), (PySem.Str.ofString "_law_numbers"), (PySem.Str.ofString "_law_numbers"), defArgs (top 40), defBody (top 40), defScope (top 40), [], []⟩
def d__law_sequence : Df := ⟨.g (PySem.Str.ofString "_law_sequence"), (PySem.Str.ofString "_law_sequence"), (PySem.Str.ofString "_law_sequence"), defArgs (top 42), defBody (top 42), defScope (top 42), [], []⟩
def d_Operator_is_zero : Df := ⟨.p (PySem.Str.ofString "Operator") (PySem.Str.ofString "is_zero"), (PySem.Str.ofString "is_zero"), (PySem.Str.ofString "Operator.is_zero"), defArgs (mem 35 3), defBody (mem 35 3), defScope (mem 35 3), [], []⟩
def d_Poly_is_zero : Df := ⟨.p (PySem.Str.ofString "Poly") (PySem.Str.ofString "is_zero"), (PySem.Str.ofString "is_zero"), (PySem.Str.ofString "Poly.is_zero"), defArgs (mem 20 4), defBody (mem 20 4), defScope (mem 20 4), [], []⟩
def d_is_settled : Df := ⟨.g (PySem.Str.ofString "is_settled"), (PySem.Str.ofString "is_settled"), (PySem.Str.ofString "is_settled"), defArgs (top 11), defBody (top 11), defScope (top 11), [], []⟩
def d_trimmed : Df := ⟨.g (PySem.Str.ofString "trimmed"), (PySem.Str.ofString "trimmed"), (PySem.Str.ofString "trimmed"), defArgs (top 18), defBody (top 18), defScope (top 18), [], []⟩
def d_content : Df := ⟨.g (PySem.Str.ofString "content"), (PySem.Str.ofString "content"), (PySem.Str.ofString "content"), defArgs (top 19), defBody (top 19), defScope (top 19), [], []⟩
def d_PolyD_initD : Df := ⟨.m (PySem.Str.ofString "Poly") (PySem.Str.ofString "__init__"), (PySem.Str.ofString "__init__"), (PySem.Str.ofString "Poly.__init__"), defArgs (mem 20 0), defBody (mem 20 0), defScope (mem 20 0), [.int 1], []⟩
def d_Poly_shifted : Df := ⟨.m (PySem.Str.ofString "Poly") (PySem.Str.ofString "shifted"), (PySem.Str.ofString "shifted"), (PySem.Str.ofString "Poly.shifted"), defArgs (mem 20 15), defBody (mem 20 15), defScope (mem 20 15), [], []⟩
def d_settled_from : Df := ⟨.g (PySem.Str.ofString "settled_from"), (PySem.Str.ofString "settled_from"), (PySem.Str.ofString "settled_from"), defArgs (top 12), defBody (top 12), defScope (top 12), [], []⟩
def d_may_have_root : Df := ⟨.g (PySem.Str.ofString "may_have_root"), (PySem.Str.ofString "may_have_root"), (PySem.Str.ofString "may_have_root"), defArgs (top 13), defBody (top 13), defScope (top 13), [], []⟩
def d_roots_between : Df := ⟨.g (PySem.Str.ofString "roots_between"), (PySem.Str.ofString "roots_between"), (PySem.Str.ofString "roots_between"), defArgs (top 14), defBody (top 14), defScope (top 14), [], []⟩
def d_roots_from : Df := ⟨.g (PySem.Str.ofString "roots_from"), (PySem.Str.ofString "roots_from"), (PySem.Str.ofString "roots_from"), defArgs (top 15), defBody (top 15), defScope (top 15), [], []⟩
def d_free_from : Df := ⟨.g (PySem.Str.ofString "free_from"), (PySem.Str.ofString "free_from"), (PySem.Str.ofString "free_from"), defArgs (top 16), defBody (top 16), defScope (top 16), [], []⟩
def d_Operator_part : Df := ⟨.m (PySem.Str.ofString "Operator") (PySem.Str.ofString "part"), (PySem.Str.ofString "part"), (PySem.Str.ofString "Operator.part"), defArgs (mem 35 5), defBody (mem 35 5), defScope (mem 35 5), [], []⟩
def d_Operator_lead : Df := ⟨.p (PySem.Str.ofString "Operator") (PySem.Str.ofString "lead"), (PySem.Str.ofString "lead"), (PySem.Str.ofString "Operator.lead"), defArgs (mem 35 4), defBody (mem 35 4), defScope (mem 35 4), [], []⟩
def d_Operator_order : Df := ⟨.p (PySem.Str.ofString "Operator") (PySem.Str.ofString "order"), (PySem.Str.ofString "order"), (PySem.Str.ofString "Operator.order"), defArgs (mem 35 2), defBody (mem 35 2), defScope (mem 35 2), [], []⟩
def d_needed : Df := ⟨.g (PySem.Str.ofString "needed"), (PySem.Str.ofString "needed"), (PySem.Str.ofString "needed"), defArgs (top 37), defBody (top 37), defScope (top 37), [], []⟩
def d_RowD_initD : Df := ⟨.m (PySem.Str.ofString "Row") (PySem.Str.ofString "__init__"), (PySem.Str.ofString "__init__"), (PySem.Str.ofString "Row.__init__"), defArgs (mem 38 0), defBody (mem 38 0), defScope (mem 38 0), [], []⟩
def d_FractionD_initD : Df := ⟨.m (PySem.Str.ofString "Fraction") (PySem.Str.ofString "__init__"), (PySem.Str.ofString "__init__"), (PySem.Str.ofString "Fraction.__init__"), defArgs (mem 9 0), defBody (mem 9 0), defScope (mem 9 0), [.int 1], []⟩
def d_OperatorD_initD : Df := ⟨.m (PySem.Str.ofString "Operator") (PySem.Str.ofString "__init__"), (PySem.Str.ofString "__init__"), (PySem.Str.ofString "Operator.__init__"), defArgs (mem 35 0), defBody (mem 35 0), defScope (mem 35 0), [], []⟩
def d__law_row : Df := ⟨.g (PySem.Str.ofString "_law_row"), (PySem.Str.ofString "_law_row"), (PySem.Str.ofString "_law_row"), defArgs (top 43), defBody (top 43), defScope (top 43), [], []⟩
def d__law_horner : Df := ⟨.g (PySem.Str.ofString "_law_horner"), (PySem.Str.ofString "_law_horner"), (PySem.Str.ofString "_law_horner"), defArgs (top 44), defBody (top 44), defScope (top 44), [], []⟩
def d__law_divisor : Df := ⟨.g (PySem.Str.ofString "_law_divisor"), (PySem.Str.ofString "_law_divisor"), (PySem.Str.ofString "_law_divisor"), defArgs (top 41), defBody (top 41), defScope (top 41), [], []⟩
def d__law_values : Df := ⟨.g (PySem.Str.ofString "_law_values"), (PySem.Str.ofString "_law_values"), (PySem.Str.ofString "_law_values"), defArgs (top 45), defBody (top 45), defScope (top 45), [], []⟩
def d_Poly_at : Df := ⟨.m (PySem.Str.ofString "Poly") (PySem.Str.ofString "at"), (PySem.Str.ofString "at"), (PySem.Str.ofString "Poly.at"), defArgs (mem 20 12), defBody (mem 20 12), defScope (mem 20 12), [], []⟩
def d_FractionD_mulD : Df := ⟨.m (PySem.Str.ofString "Fraction") (PySem.Str.ofString "__mul__"), (PySem.Str.ofString "__mul__"), (PySem.Str.ofString "Fraction.__mul__"), defArgs (mem 9 6), defBody (mem 9 6), defScope (mem 9 6), [], []⟩
def d_FractionD_addD : Df := ⟨.m (PySem.Str.ofString "Fraction") (PySem.Str.ofString "__add__"), (PySem.Str.ofString "__add__"), (PySem.Str.ofString "Fraction.__add__"), defArgs (mem 9 4), defBody (mem 9 4), defScope (mem 9 4), [], []⟩
def d_Fraction_over : Df := ⟨.m (PySem.Str.ofString "Fraction") (PySem.Str.ofString "over"), (PySem.Str.ofString "over"), (PySem.Str.ofString "Fraction.over"), defArgs (mem 9 8), defBody (mem 9 8), defScope (mem 9 8), [], []⟩
def d_FractionD_negD : Df := ⟨.m (PySem.Str.ofString "Fraction") (PySem.Str.ofString "__neg__"), (PySem.Str.ofString "__neg__"), (PySem.Str.ofString "Fraction.__neg__"), defArgs (mem 9 7), defBody (mem 9 7), defScope (mem 9 7), [], []⟩
def d_Row_prefix : Df := ⟨.m (PySem.Str.ofString "Row") (PySem.Str.ofString "prefix"), (PySem.Str.ofString "prefix"), (PySem.Str.ofString "Row.prefix"), defArgs (mem 38 3), defBody (mem 38 3), defScope (mem 38 3), [], []⟩
def d_FractionD_eqD : Df := ⟨.m (PySem.Str.ofString "Fraction") (PySem.Str.ofString "__eq__"), (PySem.Str.ofString "__eq__"), (PySem.Str.ofString "Fraction.__eq__"), defArgs (mem 9 3), defBody (mem 9 3), defScope (mem 9 3), [], []⟩
def d_accepts_rows : Df := ⟨.g (PySem.Str.ofString "accepts_rows"), (PySem.Str.ofString "accepts_rows"), (PySem.Str.ofString "accepts_rows"), defArgs (top 33), defBody (top 33), defScope (top 33), [], []⟩
def d_Poly2D_initD : Df := ⟨.m (PySem.Str.ofString "Poly2") (PySem.Str.ofString "__init__"), (PySem.Str.ofString "__init__"), (PySem.Str.ofString "Poly2.__init__"), defArgs (mem 22 0), defBody (mem 22 0), defScope (mem 22 0), [], []⟩
def d_primitive : Df := ⟨.g (PySem.Str.ofString "primitive"), (PySem.Str.ofString "primitive"), (PySem.Str.ofString "primitive"), defArgs (top 27), defBody (top 27), defScope (top 27), [], []⟩
def d_divide : Df := ⟨.g (PySem.Str.ofString "divide"), (PySem.Str.ofString "divide"), (PySem.Str.ofString "divide"), defArgs (top 24), defBody (top 24), defScope (top 24), [], []⟩
def d_Poly_scaled : Df := ⟨.m (PySem.Str.ofString "Poly") (PySem.Str.ofString "scaled"), (PySem.Str.ofString "scaled"), (PySem.Str.ofString "Poly.scaled"), defArgs (mem 20 14), defBody (mem 20 14), defScope (mem 20 14), [], []⟩
def d_Poly_lead : Df := ⟨.p (PySem.Str.ofString "Poly") (PySem.Str.ofString "lead"), (PySem.Str.ofString "lead"), (PySem.Str.ofString "Poly.lead"), defArgs (mem 20 5), defBody (mem 20 5), defScope (mem 20 5), [], []⟩
def d_monic : Df := ⟨.g (PySem.Str.ofString "monic"), (PySem.Str.ofString "monic"), (PySem.Str.ofString "monic"), defArgs (top 26), defBody (top 26), defScope (top 26), [], []⟩
def d_common_divisor : Df := ⟨.g (PySem.Str.ofString "common_divisor"), (PySem.Str.ofString "common_divisor"), (PySem.Str.ofString "common_divisor"), defArgs (top 28), defBody (top 28), defScope (top 28), [], []⟩
def d_exact : Df := ⟨.g (PySem.Str.ofString "exact"), (PySem.Str.ofString "exact"), (PySem.Str.ofString "exact"), defArgs (top 25), defBody (top 25), defScope (top 25), [], []⟩
def d_QuotientD_initD : Df := ⟨.m (PySem.Str.ofString "Quotient") (PySem.Str.ofString "__init__"), (PySem.Str.ofString "__init__"), (PySem.Str.ofString "Quotient.__init__"), defArgs (mem 30 0), defBody (mem 30 0), defScope (mem 30 0), [], []⟩
def d__law_refuses_others : Df := ⟨.g (PySem.Str.ofString "_law_refuses_others"), (PySem.Str.ofString "_law_refuses_others"), (PySem.Str.ofString "_law_refuses_others"), defArgs (top 46), defBody (top 46), defScope (top 46), [], []⟩
def d_law : Df := ⟨.g (PySem.Str.ofString "law"), (PySem.Str.ofString "law"), (PySem.Str.ofString "law"), defArgs (top 47), defBody (top 47), defScope (top 47), [], []⟩
def fs0 (K : PySem.W.Frag) : List Bool := [fFree (PySem.Str.ofString "len") K, fFree (PySem.Str.ofString "range") K, fGlo (PySem.Str.ofString "_law_numbers") K, fGlo (PySem.Str.ofString "_law_sequence") K, fFree (PySem.Str.ofString "list") K, fCls (PySem.Str.ofString "Poly") K, fNo (PySem.Str.ofString "Poly") (PySem.Str.ofString "coefs") K, fCls (PySem.Str.ofString "Operator") K, fNo (PySem.Str.ofString "Operator") (PySem.Str.ofString "coefs") K, fPrp (PySem.Str.ofString "Operator") (PySem.Str.ofString "is_zero") K, fPrp (PySem.Str.ofString "Poly") (PySem.Str.ofString "is_zero") K, fFree (PySem.Str.ofString "min") K, fFree (PySem.Str.ofString "max") K, fGlo (PySem.Str.ofString "trimmed") K, fBlt (PySem.Str.ofString "gcd") "math.gcd" K, fGlo (PySem.Str.ofString "content") K, fFree (PySem.Str.ofString "tuple") K, fCls (PySem.Str.ofString "Fraction") K, fNo (PySem.Str.ofString "Fraction") (PySem.Str.ofString "den") K, fNo (PySem.Str.ofString "Poly") (PySem.Str.ofString "den") K]
def fs1 (K : PySem.W.Frag) : List Bool := [fCls (PySem.Str.ofString "Quotient") K, fNo (PySem.Str.ofString "Quotient") (PySem.Str.ofString "den") K, fMk (PySem.Str.ofString "Poly") K, fGlo (PySem.Str.ofString "Poly") K, fMeth (PySem.Str.ofString "Poly") (PySem.Str.ofString "shifted") K, fGlo (PySem.Str.ofString "is_settled") K, fGlo (PySem.Str.ofString "settled_from") K, fFree (PySem.Str.ofString "reversed") K, fFree (PySem.Str.ofString "abs") K, fGlo (PySem.Str.ofString "may_have_root") K, fGlo (PySem.Str.ofString "roots_between") K, fGlo (PySem.Str.ofString "roots_from") K, fMeth (PySem.Str.ofString "Operator") (PySem.Str.ofString "part") K, fPrp (PySem.Str.ofString "Operator") (PySem.Str.ofString "lead") K, fGlo (PySem.Str.ofString "free_from") K, fPrp (PySem.Str.ofString "Operator") (PySem.Str.ofString "order") K, fGlo (PySem.Str.ofString "needed") K, fCls (PySem.Str.ofString "Row") K, fNo (PySem.Str.ofString "Row") (PySem.Str.ofString "operator") K, fNo (PySem.Str.ofString "Row") (PySem.Str.ofString "initial") K]
def fs2 (K : PySem.W.Frag) : List Bool := [fMk (PySem.Str.ofString "Row") K, fNo (PySem.Str.ofString "Fraction") (PySem.Str.ofString "num") K, fNo (PySem.Str.ofString "Quotient") (PySem.Str.ofString "num") K, fMk (PySem.Str.ofString "Fraction") K, fGlo (PySem.Str.ofString "Fraction") K, fMk (PySem.Str.ofString "Operator") K, fGlo (PySem.Str.ofString "Operator") K, fGlo (PySem.Str.ofString "Row") K, fGlo (PySem.Str.ofString "_law_row") K, fGlo (PySem.Str.ofString "_law_horner") K, fFree (PySem.Str.ofString "int") K, fGlo (PySem.Str.ofString "_law_divisor") K, fGlo (PySem.Str.ofString "_law_values") K, fMeth (PySem.Str.ofString "Poly") (PySem.Str.ofString "at") K, fBin (PySem.Str.ofString "Fraction") .Mult (PySem.Str.ofString "__mul__") K, fBin (PySem.Str.ofString "Fraction") .Add (PySem.Str.ofString "__add__") K, fMeth (PySem.Str.ofString "Fraction") (PySem.Str.ofString "over") K, fNeg (PySem.Str.ofString "Fraction") K, fMeth (PySem.Str.ofString "Row") (PySem.Str.ofString "prefix") K, fCls (PySem.Str.ofString "Poly2") K]
def fs3 (K : PySem.W.Frag) : List Bool := [fIs (PySem.Str.ofString "Fraction") (cls.map (·.1)) K, fFree (PySem.Str.ofString "isinstance") K, fEq (PySem.Str.ofString "Fraction") K, fApart (cls.map (·.1)) K, fGlo (PySem.Str.ofString "accepts_rows") K, fIsT "bool" (cls.map (·.1)) K, fFree (PySem.Str.ofString "bool") K, fNo (PySem.Str.ofString "Poly2") (PySem.Str.ofString "rows") K, fMk (PySem.Str.ofString "Poly2") K, fGlo (PySem.Str.ofString "Poly2") K, fGlo (PySem.Str.ofString "primitive") K, fGlo (PySem.Str.ofString "divide") K, fMeth (PySem.Str.ofString "Poly") (PySem.Str.ofString "scaled") K, fPrp (PySem.Str.ofString "Poly") (PySem.Str.ofString "lead") K, fGlo (PySem.Str.ofString "monic") K, fGlo (PySem.Str.ofString "common_divisor") K, fGlo (PySem.Str.ofString "exact") K, fMk (PySem.Str.ofString "Quotient") K, fGlo (PySem.Str.ofString "Quotient") K, fGlo (PySem.Str.ofString "_law_refuses_others") K]
def fs4 (K : PySem.W.Frag) : List Bool := [fGlo (PySem.Str.ofString "law") K]
def fs (K : PySem.W.Frag) : List Bool := fs0 K ++ (fs1 K ++ (fs2 K ++ (fs3 K ++ (fs4 K))))
def fn0 : List Df := [d__law_numbers, d__law_sequence, d_Operator_is_zero, d_Poly_is_zero, d_is_settled, d_trimmed, d_content, d_PolyD_initD, d_Poly_shifted, d_settled_from, d_may_have_root, d_roots_between, d_roots_from, d_free_from, d_Operator_part, d_Operator_lead, d_Operator_order, d_needed, d_RowD_initD, d_FractionD_initD]
def fn1 : List Df := [d_OperatorD_initD, d__law_row, d__law_horner, d__law_divisor, d__law_values, d_Poly_at, d_FractionD_mulD, d_FractionD_addD, d_Fraction_over, d_FractionD_negD, d_Row_prefix, d_FractionD_eqD, d_accepts_rows, d_Poly2D_initD, d_primitive, d_divide, d_Poly_scaled, d_Poly_lead, d_monic, d_common_divisor]
def fn2 : List Df := [d_exact, d_QuotientD_initD, d__law_refuses_others, d_law]
def fn : List Df := fn0 ++ (fn1 ++ (fn2))
/-- what the head leaves -/
structure Bd (K : PySem.W.Frag) (mg : Str → Option Value) (h : Heap) : Prop where
  c : SaysX fs fn K
  X : K.In h
  G : h.Ns mainGlobals mg
theorem bt_len : bootBuiltins (PySem.Str.ofString "len") = some (.builtin "len") := by decide +kernel
theorem bt_list : bootBuiltins (PySem.Str.ofString "list") = some (.type "list") := by decide +kernel
theorem bt_min : bootBuiltins (PySem.Str.ofString "min") = some (.builtin "min") := by decide +kernel
theorem bt_max : bootBuiltins (PySem.Str.ofString "max") = some (.builtin "max") := by decide +kernel
theorem bt_tuple : bootBuiltins (PySem.Str.ofString "tuple") = some (.type "tuple") := by decide +kernel
theorem bt_abs : bootBuiltins (PySem.Str.ofString "abs") = some (.builtin "abs") := by decide +kernel
theorem bt_int : bootBuiltins (PySem.Str.ofString "int") = some (.type "int") := by decide +kernel
theorem bt_isinstance : bootBuiltins (PySem.Str.ofString "isinstance") = some (.builtin "isinstance") := by decide +kernel
theorem bt_bool : bootBuiltins (PySem.Str.ofString "bool") = some (.type "bool") := by decide +kernel
section
variable {K : PySem.W.Frag} {mg : Str → Option Value} {h : Heap}
theorem Bd.f0 (E : Bd K mg h) : fFree (PySem.Str.ofString "len") K = true := E.c.fact 0
theorem Bd.f1 (E : Bd K mg h) : fFree (PySem.Str.ofString "range") K = true := E.c.fact 1
theorem Bd.f2 (E : Bd K mg h) : fGlo (PySem.Str.ofString "_law_numbers") K = true := E.c.fact 2
theorem Bd.f3 (E : Bd K mg h) : fGlo (PySem.Str.ofString "_law_sequence") K = true := E.c.fact 3
theorem Bd.f4 (E : Bd K mg h) : fFree (PySem.Str.ofString "list") K = true := E.c.fact 4
theorem Bd.f5 (E : Bd K mg h) : fCls (PySem.Str.ofString "Poly") K = true := E.c.fact 5
theorem Bd.f6 (E : Bd K mg h) : fNo (PySem.Str.ofString "Poly") (PySem.Str.ofString "coefs") K = true := E.c.fact 6
theorem Bd.f7 (E : Bd K mg h) : fCls (PySem.Str.ofString "Operator") K = true := E.c.fact 7
theorem Bd.f8 (E : Bd K mg h) : fNo (PySem.Str.ofString "Operator") (PySem.Str.ofString "coefs") K = true := E.c.fact 8
theorem Bd.f9 (E : Bd K mg h) : fPrp (PySem.Str.ofString "Operator") (PySem.Str.ofString "is_zero") K = true := E.c.fact 9
theorem Bd.f10 (E : Bd K mg h) : fPrp (PySem.Str.ofString "Poly") (PySem.Str.ofString "is_zero") K = true := E.c.fact 10
theorem Bd.f11 (E : Bd K mg h) : fFree (PySem.Str.ofString "min") K = true := E.c.fact 11
theorem Bd.f12 (E : Bd K mg h) : fFree (PySem.Str.ofString "max") K = true := E.c.fact 12
theorem Bd.f13 (E : Bd K mg h) : fGlo (PySem.Str.ofString "trimmed") K = true := E.c.fact 13
theorem Bd.f14 (E : Bd K mg h) : fBlt (PySem.Str.ofString "gcd") "math.gcd" K = true := E.c.fact 14
theorem Bd.f15 (E : Bd K mg h) : fGlo (PySem.Str.ofString "content") K = true := E.c.fact 15
theorem Bd.f16 (E : Bd K mg h) : fFree (PySem.Str.ofString "tuple") K = true := E.c.fact 16
theorem Bd.f17 (E : Bd K mg h) : fCls (PySem.Str.ofString "Fraction") K = true := E.c.fact 17
theorem Bd.f18 (E : Bd K mg h) : fNo (PySem.Str.ofString "Fraction") (PySem.Str.ofString "den") K = true := E.c.fact 18
theorem Bd.f19 (E : Bd K mg h) : fNo (PySem.Str.ofString "Poly") (PySem.Str.ofString "den") K = true := E.c.fact 19
theorem Bd.f20 (E : Bd K mg h) : fCls (PySem.Str.ofString "Quotient") K = true := E.c.fact 20
theorem Bd.f21 (E : Bd K mg h) : fNo (PySem.Str.ofString "Quotient") (PySem.Str.ofString "den") K = true := E.c.fact 21
theorem Bd.f22 (E : Bd K mg h) : fMk (PySem.Str.ofString "Poly") K = true := E.c.fact 22
theorem Bd.f23 (E : Bd K mg h) : fGlo (PySem.Str.ofString "Poly") K = true := E.c.fact 23
theorem Bd.f24 (E : Bd K mg h) : fMeth (PySem.Str.ofString "Poly") (PySem.Str.ofString "shifted") K = true := E.c.fact 24
theorem Bd.f25 (E : Bd K mg h) : fGlo (PySem.Str.ofString "is_settled") K = true := E.c.fact 25
theorem Bd.f26 (E : Bd K mg h) : fGlo (PySem.Str.ofString "settled_from") K = true := E.c.fact 26
theorem Bd.f27 (E : Bd K mg h) : fFree (PySem.Str.ofString "reversed") K = true := E.c.fact 27
theorem Bd.f28 (E : Bd K mg h) : fFree (PySem.Str.ofString "abs") K = true := E.c.fact 28
theorem Bd.f29 (E : Bd K mg h) : fGlo (PySem.Str.ofString "may_have_root") K = true := E.c.fact 29
theorem Bd.f30 (E : Bd K mg h) : fGlo (PySem.Str.ofString "roots_between") K = true := E.c.fact 30
theorem Bd.f31 (E : Bd K mg h) : fGlo (PySem.Str.ofString "roots_from") K = true := E.c.fact 31
theorem Bd.f32 (E : Bd K mg h) : fMeth (PySem.Str.ofString "Operator") (PySem.Str.ofString "part") K = true := E.c.fact 32
theorem Bd.f33 (E : Bd K mg h) : fPrp (PySem.Str.ofString "Operator") (PySem.Str.ofString "lead") K = true := E.c.fact 33
theorem Bd.f34 (E : Bd K mg h) : fGlo (PySem.Str.ofString "free_from") K = true := E.c.fact 34
theorem Bd.f35 (E : Bd K mg h) : fPrp (PySem.Str.ofString "Operator") (PySem.Str.ofString "order") K = true := E.c.fact 35
theorem Bd.f36 (E : Bd K mg h) : fGlo (PySem.Str.ofString "needed") K = true := E.c.fact 36
theorem Bd.f37 (E : Bd K mg h) : fCls (PySem.Str.ofString "Row") K = true := E.c.fact 37
theorem Bd.f38 (E : Bd K mg h) : fNo (PySem.Str.ofString "Row") (PySem.Str.ofString "operator") K = true := E.c.fact 38
theorem Bd.f39 (E : Bd K mg h) : fNo (PySem.Str.ofString "Row") (PySem.Str.ofString "initial") K = true := E.c.fact 39
theorem Bd.f40 (E : Bd K mg h) : fMk (PySem.Str.ofString "Row") K = true := E.c.fact 40
theorem Bd.f41 (E : Bd K mg h) : fNo (PySem.Str.ofString "Fraction") (PySem.Str.ofString "num") K = true := E.c.fact 41
theorem Bd.f42 (E : Bd K mg h) : fNo (PySem.Str.ofString "Quotient") (PySem.Str.ofString "num") K = true := E.c.fact 42
theorem Bd.f43 (E : Bd K mg h) : fMk (PySem.Str.ofString "Fraction") K = true := E.c.fact 43
theorem Bd.f44 (E : Bd K mg h) : fGlo (PySem.Str.ofString "Fraction") K = true := E.c.fact 44
theorem Bd.f45 (E : Bd K mg h) : fMk (PySem.Str.ofString "Operator") K = true := E.c.fact 45
theorem Bd.f46 (E : Bd K mg h) : fGlo (PySem.Str.ofString "Operator") K = true := E.c.fact 46
theorem Bd.f47 (E : Bd K mg h) : fGlo (PySem.Str.ofString "Row") K = true := E.c.fact 47
theorem Bd.f48 (E : Bd K mg h) : fGlo (PySem.Str.ofString "_law_row") K = true := E.c.fact 48
theorem Bd.f49 (E : Bd K mg h) : fGlo (PySem.Str.ofString "_law_horner") K = true := E.c.fact 49
theorem Bd.f50 (E : Bd K mg h) : fFree (PySem.Str.ofString "int") K = true := E.c.fact 50
theorem Bd.f51 (E : Bd K mg h) : fGlo (PySem.Str.ofString "_law_divisor") K = true := E.c.fact 51
theorem Bd.f52 (E : Bd K mg h) : fGlo (PySem.Str.ofString "_law_values") K = true := E.c.fact 52
theorem Bd.f53 (E : Bd K mg h) : fMeth (PySem.Str.ofString "Poly") (PySem.Str.ofString "at") K = true := E.c.fact 53
theorem Bd.f54 (E : Bd K mg h) : fBin (PySem.Str.ofString "Fraction") .Mult (PySem.Str.ofString "__mul__") K = true := E.c.fact 54
theorem Bd.f55 (E : Bd K mg h) : fBin (PySem.Str.ofString "Fraction") .Add (PySem.Str.ofString "__add__") K = true := E.c.fact 55
theorem Bd.f56 (E : Bd K mg h) : fMeth (PySem.Str.ofString "Fraction") (PySem.Str.ofString "over") K = true := E.c.fact 56
theorem Bd.f57 (E : Bd K mg h) : fNeg (PySem.Str.ofString "Fraction") K = true := E.c.fact 57
theorem Bd.f58 (E : Bd K mg h) : fMeth (PySem.Str.ofString "Row") (PySem.Str.ofString "prefix") K = true := E.c.fact 58
theorem Bd.f59 (E : Bd K mg h) : fCls (PySem.Str.ofString "Poly2") K = true := E.c.fact 59
theorem Bd.f60 (E : Bd K mg h) : fIs (PySem.Str.ofString "Fraction") (cls.map (·.1)) K = true := E.c.fact 60
theorem Bd.f61 (E : Bd K mg h) : fFree (PySem.Str.ofString "isinstance") K = true := E.c.fact 61
theorem Bd.f62 (E : Bd K mg h) : fEq (PySem.Str.ofString "Fraction") K = true := E.c.fact 62
theorem Bd.f63 (E : Bd K mg h) : fApart (cls.map (·.1)) K = true := E.c.fact 63
theorem Bd.f64 (E : Bd K mg h) : fGlo (PySem.Str.ofString "accepts_rows") K = true := E.c.fact 64
theorem Bd.f65 (E : Bd K mg h) : fIsT "bool" (cls.map (·.1)) K = true := E.c.fact 65
theorem Bd.f66 (E : Bd K mg h) : fFree (PySem.Str.ofString "bool") K = true := E.c.fact 66
theorem Bd.f67 (E : Bd K mg h) : fNo (PySem.Str.ofString "Poly2") (PySem.Str.ofString "rows") K = true := E.c.fact 67
theorem Bd.f68 (E : Bd K mg h) : fMk (PySem.Str.ofString "Poly2") K = true := E.c.fact 68
theorem Bd.f69 (E : Bd K mg h) : fGlo (PySem.Str.ofString "Poly2") K = true := E.c.fact 69
theorem Bd.f70 (E : Bd K mg h) : fGlo (PySem.Str.ofString "primitive") K = true := E.c.fact 70
theorem Bd.f71 (E : Bd K mg h) : fGlo (PySem.Str.ofString "divide") K = true := E.c.fact 71
theorem Bd.f72 (E : Bd K mg h) : fMeth (PySem.Str.ofString "Poly") (PySem.Str.ofString "scaled") K = true := E.c.fact 72
theorem Bd.f73 (E : Bd K mg h) : fPrp (PySem.Str.ofString "Poly") (PySem.Str.ofString "lead") K = true := E.c.fact 73
theorem Bd.f74 (E : Bd K mg h) : fGlo (PySem.Str.ofString "monic") K = true := E.c.fact 74
theorem Bd.f75 (E : Bd K mg h) : fGlo (PySem.Str.ofString "common_divisor") K = true := E.c.fact 75
theorem Bd.f76 (E : Bd K mg h) : fGlo (PySem.Str.ofString "exact") K = true := E.c.fact 76
theorem Bd.f77 (E : Bd K mg h) : fMk (PySem.Str.ofString "Quotient") K = true := E.c.fact 77
theorem Bd.f78 (E : Bd K mg h) : fGlo (PySem.Str.ofString "Quotient") K = true := E.c.fact 78
theorem Bd.f79 (E : Bd K mg h) : fGlo (PySem.Str.ofString "_law_refuses_others") K = true := E.c.fact 79
theorem Bd.f80 (E : Bd K mg h) : fGlo (PySem.Str.ofString "law") K = true := E.c.fact 80
theorem Bd.insOk (E : Bd K mg h) : ∀ c ∈ [0, 1, 2, 3, 4, 5], InOk K (T K) c := by
  intro c hc
  simp only [List.mem_cons, List.not_mem_nil, or_false] at hc
  rcases hc with rfl | rfl | rfl | rfl | rfl | rfl
  · exact in_of (c := 0) rfl E.f17
  · exact in_of (c := 1) rfl E.f5
  · exact in_of (c := 2) rfl E.f59
  · exact in_of (c := 3) rfl E.f20
  · exact in_of (c := 4) rfl E.f7
  · exact in_of (c := 5) rfl E.f37
theorem Bd.tft_coefs (E : Bd K mg h) : FldOk K (T K) (PySem.Str.ofString "coefs") ft_coefs := fld_of fun c j e => by
  unfold ft_coefs at e
  split at e
  · cases e; exact ⟨_, rfl, E.f5, E.f6, rfl, by decide⟩
  · cases e; exact ⟨_, rfl, E.f7, E.f8, rfl, by decide⟩
  · cases e
theorem Bd.tft_den (E : Bd K mg h) : FldOk K (T K) (PySem.Str.ofString "den") ft_den := fld_of fun c j e => by
  unfold ft_den at e
  split at e
  · cases e; exact ⟨_, rfl, E.f17, E.f18, rfl, by decide⟩
  · cases e; exact ⟨_, rfl, E.f5, E.f19, rfl, by decide⟩
  · cases e; exact ⟨_, rfl, E.f20, E.f21, rfl, by decide⟩
  · cases e
theorem Bd.tft_operator (E : Bd K mg h) : FldOk K (T K) (PySem.Str.ofString "operator") ft_operator := fld_of fun c j e => by
  unfold ft_operator at e
  split at e
  · cases e; exact ⟨_, rfl, E.f37, E.f38, rfl, by decide⟩
  · cases e
theorem Bd.tft_initial (E : Bd K mg h) : FldOk K (T K) (PySem.Str.ofString "initial") ft_initial := fld_of fun c j e => by
  unfold ft_initial at e
  split at e
  · cases e; exact ⟨_, rfl, E.f37, E.f39, rfl, by decide⟩
  · cases e
theorem Bd.tft_num (E : Bd K mg h) : FldOk K (T K) (PySem.Str.ofString "num") ft_num := fld_of fun c j e => by
  unfold ft_num at e
  split at e
  · cases e; exact ⟨_, rfl, E.f17, E.f41, rfl, by decide⟩
  · cases e; exact ⟨_, rfl, E.f20, E.f42, rfl, by decide⟩
  · cases e
theorem Bd.tft_rows (E : Bd K mg h) : FldOk K (T K) (PySem.Str.ofString "rows") ft_rows := fld_of fun c j e => by
  unfold ft_rows at e
  split at e
  · cases e; exact ⟨_, rfl, E.f59, E.f67, rfl, by decide⟩
  · cases e
end
/-! _law_numbers -/
def b__law_numbers : En → SOut := (sCons (sSet 2 (cst (.int 0))) (sCons (sIf (tst (op2 iGt (vLen (vw 0)) (cst (.int 0)))) (sCons (sSet 2 (ixV 0 (cst (.int 0)))) sNil) sNil) (sCons (sSet 3 (op2 iGe (rd 2) (op2 iPow (cst (.int 10)) (cst (.int 18))))) (sCons (sSetN 4 (nLst aN)) (sCons (sFor (itR1 (aC (rd 1) aN)) (gN 5) (sCons (sIf (tAnd2 (tst (rd 3)) (tst (op2 iGt (rd 2) (cst (.int 0))))) (sCons (sApp 4 (op2 iMod (rd 2) (cst (.int 1000000)))) (sCons (sSet 2 (op2 iDiv (rd 2) (cst (.int 1000000)))) sNil)) (sCons (sSet 6 (cst (.int 13))) (sCons (sIf (tst (op2 iGt (vLen (vw 0)) (cst (.int 0)))) (sCons (sSet 6 (op2 iAdd (ixV 0 (op2 iMod (rd 5) (vLen (vw 0)))) (op2 iMul (cst (.int 7919)) (rd 5)))) sNil) sNil) (sCons (sApp 4 (op2 iMod (op2 iMod (op2 iMul (op2 iMod (op2 iMul (rd 6) (cst (.int 48271))) (cst (.int 2147483647))) (cst (.int 69621))) (cst (.int 2147483629))) (cst (.int 1000000)))) sNil)))) sNil)) (sCons (sRet (rd 4)) sNil))))))
def m__law_numbers : En → Out D := mOf 7 [] b__law_numbers
theorem sc__law_numbers : FnScope [(PySem.Str.ofString "_law_script"), (PySem.Str.ofString "_law_count"), (PySem.Str.ofString "_law_rest"), (PySem.Str.ofString "_law_by_digits"), (PySem.Str.ofString "_law_numbers_here"), (PySem.Str.ofString "_law_k"), (PySem.Str.ofString "_law_cell")] [(PySem.Str.ofString "_law_script"), (PySem.Str.ofString "_law_count")] (defScope (top 40)) := ⟨rfl, rfl, rfl, by decide +kernel, rfl, by decide +kernel, by decide +kernel⟩
theorem ok__law_numbers {P : Program} {w : World} {K : PySem.W.Frag} {mg : Str → Option Value} {base h : Heap} (E : Bd K mg h) : Got P w K mg base (T K) d__law_numbers 1 [(PySem.Str.ofString "_law_script"), (PySem.Str.ofString "_law_count")] m__law_numbers := by
  obtain ⟨fd, F⟩ := E.c.def_ 0 (d := d__law_numbers)
  have sc := sc__law_numbers
  have F' : FunD K (PySem.Str.ofString "_law_numbers") (PySem.Str.ofString "_law_numbers") (defArgs (top 40)) (defBody (top 40)) (defScope (top 40)) (d__law_numbers.dvs K) [] (adr K (.g (PySem.Str.ofString "_law_numbers"))) fd := F
  have z := @fn_okE P w K mg base _ _ _ _ _ _ _ _ fd (T K) [(PySem.Str.ofString "_law_script"), (PySem.Str.ofString "_law_count"), (PySem.Str.ofString "_law_rest"), (PySem.Str.ofString "_law_by_digits"), (PySem.Str.ofString "_law_numbers_here"), (PySem.Str.ofString "_law_k"), (PySem.Str.ofString "_law_cell")] [(PySem.Str.ofString "_law_script"), (PySem.Str.ofString "_law_count")] 0 [] b__law_numbers F' sc rfl
  have z2 : _ → FnOk P w K mg base (L2.CX P w) 1 (adr K (.g (PySem.Str.ofString "_law_numbers"))) fd [(PySem.Str.ofString "_law_script"), (PySem.Str.ofString "_law_count")] (spM K (T K) 2 m__law_numbers) := z
  refine ⟨fd, F, z2 ?_⟩
  intro cdv A outer s H Ex X eX hr tk hp
  subst eX
  exact (zs_cons (z_set (i := 2) sc.nd rfl (Or.inl rfl) pf_int) (zs_cons (z_if (tf_cmp of_gt (pf_lenV (vf_v (pv 0)) rfl (free_of E.X E.G E.f0) bt_len) pf_int (by rfl)) (zs_cons (z_set (i := 2) sc.nd rfl (Or.inl rfl) (pf_ixV (pv 0) pf_int)) zs_nil) zs_nil) (zs_cons (z_set (i := 3) sc.nd rfl (Or.inl rfl) (pf_cmp of_ge (pf_v (pv 2)) (pf_op of_pow pf_int pf_int) (by rfl))) (zs_cons (z_setN (i := 4) sc.nd rfl (Or.inl rfl) (pn_lst af_nil)) (zs_cons (z_for hp rfl (if_range1 rfl (free_of E.X E.G E.f1) (af_cons (pf_v (pv 1)) af_nil)) (gf_name (i := 5) sc.nd rfl (Or.inl rfl)) (zs_cons (z_if (tf_w (wf_and (tf_val (pf_v (pv 3))) (wf_and1 (tf_cmp of_gt (pf_v (pv 2)) pf_int (by rfl))))) (zs_cons (z_app (pv 4) (pf_op of_mod (pf_v (pv 2)) pf_int)) (zs_cons (z_set (i := 2) sc.nd rfl (Or.inl rfl) (pf_op of_div (pf_v (pv 2)) pf_int)) zs_nil)) (zs_cons (z_set (i := 6) sc.nd rfl (Or.inl rfl) pf_int) (zs_cons (z_if (tf_cmp of_gt (pf_lenV (vf_v (pv 0)) rfl (free_of E.X E.G E.f0) bt_len) pf_int (by rfl)) (zs_cons (z_set (i := 6) sc.nd rfl (Or.inl rfl) (pf_op of_add (pf_ixV (pv 0) (pf_op of_mod (pf_v (pv 5)) (pf_lenV (vf_v (pv 0)) rfl (free_of E.X E.G E.f0) bt_len))) (pf_op of_mul pf_int (pf_v (pv 5))))) zs_nil) zs_nil) (zs_cons (z_app (pv 4) (pf_op of_mod (pf_op of_mod (pf_op of_mul (pf_op of_mod (pf_op of_mul (pf_v (pv 6)) pf_int) pf_int) pf_int) pf_int) pf_int)) zs_nil)))) zs_nil)) (zs_cons (z_ret (pf_v (pv 4))) zs_nil))))))
/-! _law_sequence -/
def b__law_sequence : En → SOut := (sCons (sSet 2 (op2 iMod (ixV 0 (rd 1)) (cst (.int 3)))) (sCons (sSet 3 (op2 iSub (op2 iMod (ixV 0 (op2 iAdd (rd 1) (cst (.int 1)))) (cst (.int 9))) (cst (.int 4)))) (sCons (sSet 4 (op2 iSub (op2 iMod (op2 iDiv (ixV 0 (op2 iAdd (rd 1) (cst (.int 1)))) (cst (.int 9))) (cst (.int 9))) (cst (.int 4)))) (sCons (sSet 5 (op2 iMod (ixV 0 (op2 iAdd (rd 1) (cst (.int 2)))) (cst (.int 4)))) (sCons (sSetN 6 (nLst (aC (op2 iSub (op2 iMod (ixV 0 (op2 iAdd (rd 1) (cst (.int 3)))) (cst (.int 9))) (cst (.int 4))) (aC (op2 iSub (op2 iMod (op2 iDiv (ixV 0 (op2 iAdd (rd 1) (cst (.int 3)))) (cst (.int 9))) (cst (.int 9))) (cst (.int 4))) aN)))) (sCons (sIf (tst (op2 sEq (rd 2) (cst (.int 0)))) (sCons (sRet (fz (nLst (aC (fz (nLst (aC (fz (nLst (aC (rd 4) (aC (rd 3) aN)))) (aC (fz (nLst (aC (op2 iAdd (rd 5) (cst (.int 1))) (aC (cst (.int 1)) aN)))) aN)))) (aC (fz (nSlV 6 noP (isP (cst (.int 1))))) aN))))) sNil) sNil) (sCons (sIf (tst (op2 sEq (rd 2) (cst (.int 1)))) (sCons (sRet (fz (nLst (aC (fz (nLst (aC (fz (nLst (aC (rd 4) aN))) (aC (fz (nLst (aC (rd 3) aN))) (aC (fz (nLst (aC (cst (.int 1)) aN))) aN))))) (aC (rd 6) aN))))) sNil) sNil) (sCons (sRet (fz (nLst (aC (fz (nLst (aC (fz (nLst (aC (rd 4) (aC (rd 3) aN)))) (aC (fz (nLst (aC (iNeg (rd 5)) (aC (cst (.int 1)) aN)))) aN)))) (aC (fz (nLc (itR1 (aC (op2 iAdd (rd 5) (cst (.int 2))) aN)) (gN 7) always (op2 iAdd (ixV 6 (op2 iMod (rd 7) (cst (.int 2)))) (rd 7)) [7])) aN))))) sNil))))))))
def m__law_sequence : En → Out D := mOf 8 [] b__law_sequence
theorem sc__law_sequence : FnScope [(PySem.Str.ofString "_law_numbers_here"), (PySem.Str.ofString "_law_place"), (PySem.Str.ofString "_law_kind"), (PySem.Str.ofString "_law_a"), (PySem.Str.ofString "_law_b"), (PySem.Str.ofString "_law_c"), (PySem.Str.ofString "_law_start"), (PySem.Str.ofString "_law_i")] [(PySem.Str.ofString "_law_numbers_here"), (PySem.Str.ofString "_law_place")] (defScope (top 42)) := ⟨rfl, rfl, rfl, by decide +kernel, rfl, by decide +kernel, by decide +kernel⟩
theorem ok__law_sequence {P : Program} {w : World} {K : PySem.W.Frag} {mg : Str → Option Value} {base h : Heap} (E : Bd K mg h) : Got P w K mg base (T K) d__law_sequence 1 [(PySem.Str.ofString "_law_numbers_here"), (PySem.Str.ofString "_law_place")] m__law_sequence := by
  obtain ⟨fd, F⟩ := E.c.def_ 1 (d := d__law_sequence)
  have sc := sc__law_sequence
  have F' : FunD K (PySem.Str.ofString "_law_sequence") (PySem.Str.ofString "_law_sequence") (defArgs (top 42)) (defBody (top 42)) (defScope (top 42)) (d__law_sequence.dvs K) [] (adr K (.g (PySem.Str.ofString "_law_sequence"))) fd := F
  have z := @fn_okE P w K mg base _ _ _ _ _ _ _ _ fd (T K) [(PySem.Str.ofString "_law_numbers_here"), (PySem.Str.ofString "_law_place"), (PySem.Str.ofString "_law_kind"), (PySem.Str.ofString "_law_a"), (PySem.Str.ofString "_law_b"), (PySem.Str.ofString "_law_c"), (PySem.Str.ofString "_law_start"), (PySem.Str.ofString "_law_i")] [(PySem.Str.ofString "_law_numbers_here"), (PySem.Str.ofString "_law_place")] 0 [] b__law_sequence F' sc rfl
  have z2 : _ → FnOk P w K mg base (L2.CX P w) 1 (adr K (.g (PySem.Str.ofString "_law_sequence"))) fd [(PySem.Str.ofString "_law_numbers_here"), (PySem.Str.ofString "_law_place")] (spM K (T K) 2 m__law_sequence) := z
  refine ⟨fd, F, z2 ?_⟩
  intro cdv A outer s H Ex X eX hr tk hp
  subst eX
  exact (zs_cons (z_set (i := 2) sc.nd rfl (Or.inl rfl) (pf_op of_mod (pf_ixV (pv 0) (pf_v (pv 1))) pf_int)) (zs_cons (z_set (i := 3) sc.nd rfl (Or.inl rfl) (pf_op of_sub (pf_op of_mod (pf_ixV (pv 0) (pf_op of_add (pf_v (pv 1)) pf_int)) pf_int) pf_int)) (zs_cons (z_set (i := 4) sc.nd rfl (Or.inl rfl) (pf_op of_sub (pf_op of_mod (pf_op of_div (pf_ixV (pv 0) (pf_op of_add (pf_v (pv 1)) pf_int)) pf_int) pf_int) pf_int)) (zs_cons (z_set (i := 5) sc.nd rfl (Or.inl rfl) (pf_op of_mod (pf_ixV (pv 0) (pf_op of_add (pf_v (pv 1)) pf_int)) pf_int)) (zs_cons (z_setN (i := 6) sc.nd rfl (Or.inr rfl) (pn_lst (af_cons (pf_op of_sub (pf_op of_mod (pf_ixV (pv 0) (pf_op of_add (pf_v (pv 1)) pf_int)) pf_int) pf_int) (af_cons (pf_op of_sub (pf_op of_mod (pf_op of_div (pf_ixV (pv 0) (pf_op of_add (pf_v (pv 1)) pf_int)) pf_int) pf_int) pf_int) af_nil)))) (zs_cons (z_if (tf_cmp of_eq (pf_v (pv 2)) pf_int (by rfl)) (zs_cons (z_ret (pf_n (pn_lst (af_cons (pf_n (pn_lst (af_cons (pf_n (pn_lst (af_cons (pf_v (pv 4)) (af_cons (pf_v (pv 3)) af_nil)))) (af_cons (pf_n (pn_lst (af_cons (pf_op of_add (pf_v (pv 5)) pf_int) (af_cons pf_int af_nil)))) af_nil)))) (af_cons (pf_n (pn_slV (pv 6) sf_none (sf_some pf_int))) af_nil))))) zs_nil) zs_nil) (zs_cons (z_if (tf_cmp of_eq (pf_v (pv 2)) pf_int (by rfl)) (zs_cons (z_ret (pf_n (pn_lst (af_cons (pf_n (pn_lst (af_cons (pf_n (pn_lst (af_cons (pf_v (pv 4)) af_nil))) (af_cons (pf_n (pn_lst (af_cons (pf_v (pv 3)) af_nil))) (af_cons (pf_n (pn_lst (af_cons pf_int af_nil))) af_nil))))) (af_cons (pf_v (pv 6)) af_nil))))) zs_nil) zs_nil) (zs_cons (z_ret (pf_n (pn_lst (af_cons (pf_n (pn_lst (af_cons (pf_n (pn_lst (af_cons (pf_v (pv 4)) (af_cons (pf_v (pv 3)) af_nil)))) (af_cons (pf_n (pn_lst (af_cons (pf_neg (pf_v (pv 5))) (af_cons pf_int af_nil)))) af_nil)))) (af_cons (pf_n (pn_lc0 rfl sc.nd (if_range1 rfl (free_of E.X E.G E.f1) (af_cons (pf_op of_add (pf_v (pv 5)) pf_int) af_nil)) (blkOk_by (own := [((PySem.Str.ofString "_law_i"), 7)]) (by kernel_rfl)) (fun _ _ _ _ _ => (gf_name (i := 7) sc.nd rfl (Or.inl rfl))) (fun _ _ _ _ _ => (pf_op of_add (pf_ixV (pv 6) (pf_op of_mod (pf_v (pv 7)) pf_int)) (pf_v (pv 7)))))) af_nil))))) zs_nil))))))))
/-! Operator.is_zero -/
def b_Operator_is_zero : En → SOut := (sCons (sRet (op2 sEq (cl1 (fun ds => opt (kLen ds)) (aC (fld ft_coefs (rd 0)) aN)) (cst (.int 0)))) sNil)
def m_Operator_is_zero : En → Out D := mOf 1 [] b_Operator_is_zero
theorem sc_Operator_is_zero : FnScope [(PySem.Str.ofString "self")] [(PySem.Str.ofString "self")] (defScope (mem 35 3)) := ⟨rfl, rfl, rfl, by decide +kernel, rfl, by decide +kernel, by decide +kernel⟩
theorem ok_Operator_is_zero {P : Program} {w : World} {K : PySem.W.Frag} {mg : Str → Option Value} {base h : Heap} (E : Bd K mg h) : Got P w K mg base (T K) d_Operator_is_zero 1 [(PySem.Str.ofString "self")] m_Operator_is_zero := by
  obtain ⟨fd, F⟩ := E.c.def_ 2 (d := d_Operator_is_zero)
  have sc := sc_Operator_is_zero
  have F' : FunD K (PySem.Str.ofString "is_zero") (PySem.Str.ofString "Operator.is_zero") (defArgs (mem 35 3)) (defBody (mem 35 3)) (defScope (mem 35 3)) (d_Operator_is_zero.dvs K) [] (adr K (.p (PySem.Str.ofString "Operator") (PySem.Str.ofString "is_zero"))) fd := F
  have z := @fn_okE P w K mg base _ _ _ _ _ _ _ _ fd (T K) [(PySem.Str.ofString "self")] [(PySem.Str.ofString "self")] 0 [] b_Operator_is_zero F' sc rfl
  have z2 : _ → FnOk P w K mg base (L2.CX P w) 1 (adr K (.p (PySem.Str.ofString "Operator") (PySem.Str.ofString "is_zero"))) fd [(PySem.Str.ofString "self")] (spM K (T K) 1 m_Operator_is_zero) := z
  refine ⟨fd, F, z2 ?_⟩
  intro cdv A outer s H Ex X eX hr tk hp
  subst eX
  exact (zs_cons (z_ret (pf_cmp of_eq (pf_callB cf_len rfl (free_of E.X E.G E.f0) bt_len (af_cons (pf_fld E.tft_coefs (pf_v (pv 0))) af_nil)) pf_int (by rfl))) zs_nil)
/-! Poly.is_zero -/
def b_Poly_is_zero : En → SOut := (sCons (sRet (op2 sEq (cl1 (fun ds => opt (kLen ds)) (aC (fld ft_coefs (rd 0)) aN)) (cst (.int 0)))) sNil)
def m_Poly_is_zero : En → Out D := mOf 1 [] b_Poly_is_zero
theorem sc_Poly_is_zero : FnScope [(PySem.Str.ofString "self")] [(PySem.Str.ofString "self")] (defScope (mem 20 4)) := ⟨rfl, rfl, rfl, by decide +kernel, rfl, by decide +kernel, by decide +kernel⟩
theorem ok_Poly_is_zero {P : Program} {w : World} {K : PySem.W.Frag} {mg : Str → Option Value} {base h : Heap} (E : Bd K mg h) : Got P w K mg base (T K) d_Poly_is_zero 1 [(PySem.Str.ofString "self")] m_Poly_is_zero := by
  obtain ⟨fd, F⟩ := E.c.def_ 3 (d := d_Poly_is_zero)
  have sc := sc_Poly_is_zero
  have F' : FunD K (PySem.Str.ofString "is_zero") (PySem.Str.ofString "Poly.is_zero") (defArgs (mem 20 4)) (defBody (mem 20 4)) (defScope (mem 20 4)) (d_Poly_is_zero.dvs K) [] (adr K (.p (PySem.Str.ofString "Poly") (PySem.Str.ofString "is_zero"))) fd := F
  have z := @fn_okE P w K mg base _ _ _ _ _ _ _ _ fd (T K) [(PySem.Str.ofString "self")] [(PySem.Str.ofString "self")] 0 [] b_Poly_is_zero F' sc rfl
  have z2 : _ → FnOk P w K mg base (L2.CX P w) 1 (adr K (.p (PySem.Str.ofString "Poly") (PySem.Str.ofString "is_zero"))) fd [(PySem.Str.ofString "self")] (spM K (T K) 1 m_Poly_is_zero) := z
  refine ⟨fd, F, z2 ?_⟩
  intro cdv A outer s H Ex X eX hr tk hp
  subst eX
  exact (zs_cons (z_ret (pf_cmp of_eq (pf_callB cf_len rfl (free_of E.X E.G E.f0) bt_len (af_cons (pf_fld E.tft_coefs (pf_v (pv 0))) af_nil)) pf_int (by rfl))) zs_nil)
/-! is_settled -/
def b_is_settled : En → SOut := (sCons (sIf (tOr2 (tst (prp 1 m_Poly_is_zero (rd 0))) (tst (op2 sEq (ix (fld ft_coefs (rd 0)) (cst (.int 0))) (cst (.int 0))))) (sCons (sRet (cst (.bl false))) sNil) sNil) (sCons (sIf (tst (op2 iGt (ix (fld ft_coefs (rd 0)) (cst (.int 0))) (cst (.int 0)))) (sCons (sRet (op2 iGe (cl1 (fun ds => opt (kMM minI ds)) (aC (fld ft_coefs (rd 0)) aN)) (cst (.int 0)))) sNil) sNil) (sCons (sRet (op2 iLe (cl1 (fun ds => opt (kMM maxI ds)) (aC (fld ft_coefs (rd 0)) aN)) (cst (.int 0)))) sNil)))
def m_is_settled : En → Out D := mOf 1 [] b_is_settled
theorem sc_is_settled : FnScope [(PySem.Str.ofString "p")] [(PySem.Str.ofString "p")] (defScope (top 11)) := ⟨rfl, rfl, rfl, by decide +kernel, rfl, by decide +kernel, by decide +kernel⟩
theorem ok_is_settled {P : Program} {w : World} {K : PySem.W.Frag} {mg : Str → Option Value} {base h : Heap} (E : Bd K mg h) : Got P w K mg base (T K) d_is_settled 3 [(PySem.Str.ofString "p")] m_is_settled := by
  obtain ⟨fd, F⟩ := E.c.def_ 4 (d := d_is_settled)
  obtain ⟨fd_Poly_is_zero, F_Poly_is_zero, G_Poly_is_zero⟩ := ok_Poly_is_zero (P := P) (w := w) (base := base) E
  have b_Poly_is_zero_1 : Dfl K (T K) fd_Poly_is_zero [(PySem.Str.ofString "self")] [] := dfl0 F_Poly_is_zero fun _ _ _ _ _ _ us hl => match us, hl with | [_], _ => rfl
  have sc := sc_is_settled
  have F' : FunD K (PySem.Str.ofString "is_settled") (PySem.Str.ofString "is_settled") (defArgs (top 11)) (defBody (top 11)) (defScope (top 11)) (d_is_settled.dvs K) [] (adr K (.g (PySem.Str.ofString "is_settled"))) fd := F
  have z := @fn_okE P w K mg base _ _ _ _ _ _ _ _ fd (T K) [(PySem.Str.ofString "p")] [(PySem.Str.ofString "p")] 2 [] b_is_settled F' sc rfl
  have z2 : _ → FnOk P w K mg base (L2.CX P w) 3 (adr K (.g (PySem.Str.ofString "is_settled"))) fd [(PySem.Str.ofString "p")] (spM K (T K) 1 m_is_settled) := z
  refine ⟨fd, F, z2 ?_⟩
  intro cdv A outer s H Ex X eX hr tk hp
  subst eX
  exact (zs_cons (z_if (tf_w (wf_or (tf_val (pf_prp (prp_of (c := 1) rfl E.f5 E.f10) G_Poly_is_zero rfl (hr.mono (by decide)) b_Poly_is_zero_1 (pf_v (pv 0)))) (wf_or1 (tf_cmp of_eq (pf_ix (pf_fld E.tft_coefs (pf_v (pv 0))) pf_int) pf_int (by rfl))))) (zs_cons (z_ret pf_bl) zs_nil) zs_nil) (zs_cons (z_if (tf_cmp of_gt (pf_ix (pf_fld E.tft_coefs (pf_v (pv 0))) pf_int) pf_int (by rfl)) (zs_cons (z_ret (pf_cmp of_ge (pf_callB (cf_mm (cr_min1 (hr.mono (by decide)))) rfl (free_of E.X E.G E.f11) bt_min (af_cons (pf_fld E.tft_coefs (pf_v (pv 0))) af_nil)) pf_int (by rfl))) zs_nil) zs_nil) (zs_cons (z_ret (pf_cmp of_le (pf_callB (cf_mm (cr_max1 (hr.mono (by decide)))) rfl (free_of E.X E.G E.f12) bt_max (af_cons (pf_fld E.tft_coefs (pf_v (pv 0))) af_nil)) pf_int (by rfl))) zs_nil)))
/-! trimmed -/
def b_trimmed : En → SOut := (sCons (sSet 1 (vLen (vw 0))) (sCons (whL (tAnd2 (tst (op2 iGt (rd 1) (cst (.int 0)))) (tst (op2 sEq (ixV 0 (op2 iSub (rd 1) (cst (.int 1)))) (cst (.int 0))))) (sCons (sAug 1 (fun i j => i - j) (cst (.int 1))) sNil) 1000000000) (sCons (sRet (fz (nSlV 0 noP (isP (rd 1))))) sNil)))
def m_trimmed : En → Out D := mOf 2 [] b_trimmed
theorem sc_trimmed : FnScope [(PySem.Str.ofString "numbers"), (PySem.Str.ofString "size")] [(PySem.Str.ofString "numbers")] (defScope (top 18)) := ⟨rfl, rfl, rfl, by decide +kernel, rfl, by decide +kernel, by decide +kernel⟩
theorem ok_trimmed {P : Program} {w : World} {K : PySem.W.Frag} {mg : Str → Option Value} {base h : Heap} (E : Bd K mg h) : Got P w K mg base (T K) d_trimmed 1 [(PySem.Str.ofString "numbers")] m_trimmed := by
  obtain ⟨fd, F⟩ := E.c.def_ 5 (d := d_trimmed)
  have sc := sc_trimmed
  have F' : FunD K (PySem.Str.ofString "trimmed") (PySem.Str.ofString "trimmed") (defArgs (top 18)) (defBody (top 18)) (defScope (top 18)) (d_trimmed.dvs K) [] (adr K (.g (PySem.Str.ofString "trimmed"))) fd := F
  have z := @fn_okE P w K mg base _ _ _ _ _ _ _ _ fd (T K) [(PySem.Str.ofString "numbers"), (PySem.Str.ofString "size")] [(PySem.Str.ofString "numbers")] 0 [] b_trimmed F' sc rfl
  have z2 : _ → FnOk P w K mg base (L2.CX P w) 1 (adr K (.g (PySem.Str.ofString "trimmed"))) fd [(PySem.Str.ofString "numbers")] (spM K (T K) 1 m_trimmed) := z
  refine ⟨fd, F, z2 ?_⟩
  intro cdv A outer s H Ex X eX hr tk hp
  subst eX
  exact (zs_cons (z_set (i := 1) sc.nd rfl (Or.inl rfl) (pf_lenV (vf_v (pv 0)) rfl (free_of E.X E.G E.f0) bt_len)) (zs_cons (z_while 1000000000 hp (tf_w (wf_and (tf_cmp of_gt (pf_v (pv 1)) pf_int (by rfl)) (wf_and1 (tf_cmp of_eq (pf_ixV (pv 0) (pf_op of_sub (pf_v (pv 1)) pf_int)) pf_int (by rfl))))) (zs_cons (z_aug (i := 1) ip_sub sc.nd rfl (Or.inl rfl) pf_int) zs_nil)) (zs_cons (z_ret (pf_n (pn_slV (pv 0) sf_none (sf_some (pf_v (pv 1)))))) zs_nil)))
/-! content -/
def b_content : En → SOut := (sCons (sSet 1 (cst (.int 0))) (sCons (sFor (itA (rd 0)) (gN 2) (sCons (sSet 1 (cl1 (fun ds => opt (k2 (fun i j => .int ((Nat.gcd i.natAbs j.natAbs : Nat) : Int)) ds)) (aC (rd 1) (aC (rd 2) aN)))) sNil)) (sCons (sRet (rd 1)) sNil)))
def m_content : En → Out D := mOf 3 [] b_content
theorem sc_content : FnScope [(PySem.Str.ofString "numbers"), (PySem.Str.ofString "divisor"), (PySem.Str.ofString "number")] [(PySem.Str.ofString "numbers")] (defScope (top 19)) := ⟨rfl, rfl, rfl, by decide +kernel, rfl, by decide +kernel, by decide +kernel⟩
theorem ok_content {P : Program} {w : World} {K : PySem.W.Frag} {mg : Str → Option Value} {base h : Heap} (E : Bd K mg h) : Got P w K mg base (T K) d_content 1 [(PySem.Str.ofString "numbers")] m_content := by
  obtain ⟨fd, F⟩ := E.c.def_ 6 (d := d_content)
  have sc := sc_content
  have F' : FunD K (PySem.Str.ofString "content") (PySem.Str.ofString "content") (defArgs (top 19)) (defBody (top 19)) (defScope (top 19)) (d_content.dvs K) [] (adr K (.g (PySem.Str.ofString "content"))) fd := F
  have z := @fn_okE P w K mg base _ _ _ _ _ _ _ _ fd (T K) [(PySem.Str.ofString "numbers"), (PySem.Str.ofString "divisor"), (PySem.Str.ofString "number")] [(PySem.Str.ofString "numbers")] 0 [] b_content F' sc rfl
  have z2 : _ → FnOk P w K mg base (L2.CX P w) 1 (adr K (.g (PySem.Str.ofString "content"))) fd [(PySem.Str.ofString "numbers")] (spM K (T K) 1 m_content) := z
  refine ⟨fd, F, z2 ?_⟩
  intro cdv A outer s H Ex X eX hr tk hp
  subst eX
  exact (zs_cons (z_set (i := 1) sc.nd rfl (Or.inl rfl) pf_int) (zs_cons (z_for hp rfl (if_any (pf_v (pv 0))) (gf_name (i := 2) sc.nd rfl (Or.inl rfl)) (zs_cons (z_set (i := 1) sc.nd rfl (Or.inl rfl) (pf_callG cf_gcd rfl (blt_of E.X E.G E.f14) (af_cons (pf_v (pv 1)) (af_cons (pf_v (pv 2)) af_nil)))) zs_nil)) (zs_cons (z_ret (pf_v (pv 1))) zs_nil)))
/-! Poly.__init__ -/
def b_PolyD_initD : En → SOut := (sCons (sIf (tst (op2 sEq (rd 2) (cst (.int 0)))) (sCons sEr sNil) sNil) (sCons (sSet 3 (cl1 (fnM 1 [] m_trimmed) (aC (fz (nList (rd 1))) aN))) (sCons (sSet 4 (cl1 (fun ds => opt (k2 (fun i j => .int ((Nat.gcd i.natAbs j.natAbs : Nat) : Int)) ds)) (aC (cl1 (fnM 1 [] m_content) (aC (rd 3) aN)) (aC (rd 2) aN)))) (sCons (sIf (tst (op2 iLt (rd 2) (cst (.int 0)))) (sCons (sSet 4 (iNeg (rd 4))) sNil) sNil) (sCons (sFldS ft_coefs 0 (cl1 (fun ds => opt (kTup ds)) (aC (fz (nLc (itA (rd 3)) (gN 5) always (op2 iDiv (rd 5) (rd 4)) [5])) aN))) (sCons (sFldS ft_den 0 (op2 iDiv (rd 2) (rd 4))) sNil))))))
def m_PolyD_initD : En → Out D := mOf 6 [0] b_PolyD_initD
theorem sc_PolyD_initD : FnScope [(PySem.Str.ofString "self"), (PySem.Str.ofString "coefs"), (PySem.Str.ofString "den"), (PySem.Str.ofString "numbers"), (PySem.Str.ofString "divisor"), (PySem.Str.ofString "number")] [(PySem.Str.ofString "self"), (PySem.Str.ofString "coefs"), (PySem.Str.ofString "den")] (defScope (mem 20 0)) := ⟨rfl, rfl, rfl, by decide +kernel, rfl, by decide +kernel, by decide +kernel⟩
theorem ok_PolyD_initD {P : Program} {w : World} {K : PySem.W.Frag} {mg : Str → Option Value} {base h : Heap} (E : Bd K mg h) : Got P w K mg base (T K) d_PolyD_initD 2 [(PySem.Str.ofString "self"), (PySem.Str.ofString "coefs"), (PySem.Str.ofString "den")] m_PolyD_initD := by
  obtain ⟨fd, F⟩ := E.c.def_ 7 (d := d_PolyD_initD)
  obtain ⟨fd_trimmed, F_trimmed, G_trimmed⟩ := ok_trimmed (P := P) (w := w) (base := base) E
  obtain ⟨fd_content, F_content, G_content⟩ := ok_content (P := P) (w := w) (base := base) E
  have b_trimmed_1 : Dfl K (T K) fd_trimmed [(PySem.Str.ofString "numbers")] [] := dfl0 F_trimmed fun _ _ _ _ _ _ us hl => match us, hl with | [_], _ => rfl
  have b_content_1 : Dfl K (T K) fd_content [(PySem.Str.ofString "numbers")] [] := dfl0 F_content fun _ _ _ _ _ _ us hl => match us, hl with | [_], _ => rfl
  have sc := sc_PolyD_initD
  have F' : FunD K (PySem.Str.ofString "__init__") (PySem.Str.ofString "Poly.__init__") (defArgs (mem 20 0)) (defBody (mem 20 0)) (defScope (mem 20 0)) (d_PolyD_initD.dvs K) [] (adr K (.m (PySem.Str.ofString "Poly") (PySem.Str.ofString "__init__"))) fd := F
  have z := @fn_okE P w K mg base _ _ _ _ _ _ _ _ fd (T K) [(PySem.Str.ofString "self"), (PySem.Str.ofString "coefs"), (PySem.Str.ofString "den"), (PySem.Str.ofString "numbers"), (PySem.Str.ofString "divisor"), (PySem.Str.ofString "number")] [(PySem.Str.ofString "self"), (PySem.Str.ofString "coefs"), (PySem.Str.ofString "den")] 1 [0] b_PolyD_initD F' sc rfl
  have z2 : _ → FnOk P w K mg base (L2.CX P w) 2 (adr K (.m (PySem.Str.ofString "Poly") (PySem.Str.ofString "__init__"))) fd [(PySem.Str.ofString "self"), (PySem.Str.ofString "coefs"), (PySem.Str.ofString "den")] (spM K (T K) 3 m_PolyD_initD) := z
  refine ⟨fd, F, z2 ?_⟩
  intro cdv A outer s H Ex X eX hr tk hp
  subst eX
  exact (zs_cons (z_if (tf_cmp of_eq (pf_v (pv 2)) pf_int (by rfl)) (zs_cons z_never zs_nil) zs_nil) (zs_cons (z_set (i := 3) sc.nd rfl (Or.inl rfl) (pf_call (kf_fn G_trimmed (hr.mono (by decide)) b_trimmed_1 tk) rfl (glo_of E.X E.G E.f13) (keep_of E.f13) (af_cons (pf_n (pn_list (pf_v (pv 1)) rfl (free_of E.X E.G E.f4) bt_list)) af_nil))) (zs_cons (z_set (i := 4) sc.nd rfl (Or.inr rfl) (pf_callG cf_gcd rfl (blt_of E.X E.G E.f14) (af_cons (pf_call (kf_fn G_content (hr.mono (by decide)) b_content_1 tk) rfl (glo_of E.X E.G E.f15) (keep_of E.f15) (af_cons (pf_v (pv 3)) af_nil)) (af_cons (pf_v (pv 2)) af_nil)))) (zs_cons (z_if (tf_cmp of_lt (pf_v (pv 2)) pf_int (by rfl)) (zs_cons (z_set (i := 4) sc.nd rfl (Or.inr rfl) (pf_neg (pf_v (pv 4)))) zs_nil) zs_nil) (zs_cons (z_fld E.tft_coefs (fun c _ _ => ct_len (by rfl) c) (pv 0) (pf_callTy cf_tuple rfl (free_of E.X E.G E.f16) bt_tuple (af_cons (pf_n (pn_lc0 rfl sc.nd (if_any (pf_v (pv 3))) (blkOk_by (own := [((PySem.Str.ofString "number"), 5)]) (by kernel_rfl)) (fun _ _ _ _ _ => (gf_name (i := 5) sc.nd rfl (Or.inl rfl))) (fun _ _ _ _ _ => (pf_op of_div (pf_v (pv 5)) (pf_v (pv 4)))))) af_nil))) (zs_cons (z_fld E.tft_den (fun c _ _ => ct_len (by rfl) c) (pv 0) (pf_op of_div (pf_v (pv 2)) (pf_v (pv 4)))) zs_nil))))))
/-! Poly.shifted -/
def b_Poly_shifted : En → SOut := (sCons (sSetN 2 (nList (fld ft_coefs (rd 0)))) (sCons (sFor (itR1 (aC (op2 iSub (vLen (vw 2)) (cst (.int 1))) aN)) (gN 3) (sCons (sFor (itR3 (aC (op2 iSub (vLen (vw 2)) (cst (.int 2))) (aC (op2 iSub (rd 3) (cst (.int 1))) (aC (iNeg (cst (.int 1))) aN)))) (gN 4) (sCons (sSetIx 2 (op2 iAdd (ixV 2 (rd 4)) (op2 iMul (rd 1) (ixV 2 (op2 iAdd (rd 4) (cst (.int 1)))))) (rd 4)) sNil)) sNil)) (sCons (sRet (cl1 (mkM 1 2 3 [] m_PolyD_initD) (aC (rd 2) (aC (fld ft_den (rd 0)) aN)))) sNil)))
def m_Poly_shifted : En → Out D := mOf 5 [] b_Poly_shifted
theorem sc_Poly_shifted : FnScope [(PySem.Str.ofString "self"), (PySem.Str.ofString "step"), (PySem.Str.ofString "numbers"), (PySem.Str.ofString "i"), (PySem.Str.ofString "j")] [(PySem.Str.ofString "self"), (PySem.Str.ofString "step")] (defScope (mem 20 15)) := ⟨rfl, rfl, rfl, by decide +kernel, rfl, by decide +kernel, by decide +kernel⟩
theorem ok_Poly_shifted {P : Program} {w : World} {K : PySem.W.Frag} {mg : Str → Option Value} {base h : Heap} (E : Bd K mg h) : Got P w K mg base (T K) d_Poly_shifted 4 [(PySem.Str.ofString "self"), (PySem.Str.ofString "step")] m_Poly_shifted := by
  obtain ⟨fd, F⟩ := E.c.def_ 8 (d := d_Poly_shifted)
  obtain ⟨fd_PolyD_initD, F_PolyD_initD, G_PolyD_initD⟩ := ok_PolyD_initD (P := P) (w := w) (base := base) E
  have b_PolyD_initD_3 : Dfl K (T K) fd_PolyD_initD [(PySem.Str.ofString "self"), (PySem.Str.ofString "coefs"), (PySem.Str.ofString "den")] [] := dfl1 F_PolyD_initD 3 1 (by intro h; cases h) rfl (fun _ => .nil) fun _ _ _ _ _ _ _ us its hl hi => match us, its, hl, hi with | [_, _, _], [_], _, _ => ⟨_, rfl, rfl⟩
  have sc := sc_Poly_shifted
  have F' : FunD K (PySem.Str.ofString "shifted") (PySem.Str.ofString "Poly.shifted") (defArgs (mem 20 15)) (defBody (mem 20 15)) (defScope (mem 20 15)) (d_Poly_shifted.dvs K) [] (adr K (.m (PySem.Str.ofString "Poly") (PySem.Str.ofString "shifted"))) fd := F
  have z := @fn_okE P w K mg base _ _ _ _ _ _ _ _ fd (T K) [(PySem.Str.ofString "self"), (PySem.Str.ofString "step"), (PySem.Str.ofString "numbers"), (PySem.Str.ofString "i"), (PySem.Str.ofString "j")] [(PySem.Str.ofString "self"), (PySem.Str.ofString "step")] 3 [] b_Poly_shifted F' sc rfl
  have z2 : _ → FnOk P w K mg base (L2.CX P w) 4 (adr K (.m (PySem.Str.ofString "Poly") (PySem.Str.ofString "shifted"))) fd [(PySem.Str.ofString "self"), (PySem.Str.ofString "step")] (spM K (T K) 2 m_Poly_shifted) := z
  refine ⟨fd, F, z2 ?_⟩
  intro cdv A outer s H Ex X eX hr tk hp
  subst eX
  exact (zs_cons (z_setN (i := 2) sc.nd rfl (Or.inl rfl) (pn_list (pf_fld E.tft_coefs (pf_v (pv 0))) rfl (free_of E.X E.G E.f4) bt_list)) (zs_cons (z_for hp rfl (if_range1 rfl (free_of E.X E.G E.f1) (af_cons (pf_op of_sub (pf_lenV (vf_v (pv 2)) rfl (free_of E.X E.G E.f0) bt_len) pf_int) af_nil)) (gf_name (i := 3) sc.nd rfl (Or.inl rfl)) (zs_cons (z_for hp rfl (if_range3 rfl (free_of E.X E.G E.f1) (af_cons (pf_op of_sub (pf_lenV (vf_v (pv 2)) rfl (free_of E.X E.G E.f0) bt_len) pf_int) (af_cons (pf_op of_sub (pf_v (pv 3)) pf_int) (af_cons (pf_neg pf_int) af_nil)))) (gf_name (i := 4) sc.nd rfl (Or.inl rfl)) (zs_cons (z_setIx (pv 2) (pf_v (pv 4)) (pf_op of_add (pf_ixV (pv 2) (pf_v (pv 4))) (pf_op of_mul (pf_v (pv 1)) (pf_ixV (pv 2) (pf_op of_add (pf_v (pv 4)) pf_int))))) zs_nil)) zs_nil)) (zs_cons (z_ret (pf_call (kf_mk (mk_of (c := 1) rfl E.f22) G_PolyD_initD (hr.mono (by decide)) b_PolyD_initD_3 tk) rfl (glo_of E.X E.G E.f23) (keep_of E.f23) (af_cons (pf_v (pv 2)) (af_cons (pf_fld E.tft_den (pf_v (pv 0))) af_nil)))) zs_nil)))
/-! settled_from -/
def b_settled_from : En → SOut := (sCons (sIf (tst (prp 1 m_Poly_is_zero (rd 0))) (sCons sEr sNil) sNil) (sCons (sIf (tst (cl1 (fnM 1 [] m_is_settled) (aC (mt 1 (fnM 2 [] m_Poly_shifted) (rd 0) (aC (rd 1) aN)) aN))) (sCons (sRet (rd 1)) sNil) sNil) (sCons (sSet 2 (cst (.int 1))) (sCons (whL (tNot1 (tst (cl1 (fnM 1 [] m_is_settled) (aC (mt 1 (fnM 2 [] m_Poly_shifted) (rd 0) (aC (op2 iAdd (rd 1) (rd 2)) aN)) aN)))) (sCons (sSet 2 (op2 iMul (rd 2) (cst (.int 2)))) sNil) 1000000000) (sCons (sSet 3 (op2 iAdd (rd 1) (op2 iDiv (rd 2) (cst (.int 2))))) (sCons (sSet 4 (op2 iAdd (rd 1) (rd 2))) (sCons (whL (tst (op2 iGt (op2 iSub (rd 4) (rd 3)) (cst (.int 1)))) (sCons (sSet 5 (op2 iDiv (op2 iAdd (rd 3) (rd 4)) (cst (.int 2)))) (sCons (sIf (tst (cl1 (fnM 1 [] m_is_settled) (aC (mt 1 (fnM 2 [] m_Poly_shifted) (rd 0) (aC (rd 5) aN)) aN))) (sCons (sSet 4 (rd 5)) sNil) (sCons (sSet 3 (rd 5)) sNil)) sNil)) 1000000000) (sCons (sRet (rd 4)) sNil))))))))
def m_settled_from : En → Out D := mOf 6 [] b_settled_from
theorem sc_settled_from : FnScope [(PySem.Str.ofString "p"), (PySem.Str.ofString "start"), (PySem.Str.ofString "step"), (PySem.Str.ofString "low"), (PySem.Str.ofString "high"), (PySem.Str.ofString "middle")] [(PySem.Str.ofString "p"), (PySem.Str.ofString "start")] (defScope (top 12)) := ⟨rfl, rfl, rfl, by decide +kernel, rfl, by decide +kernel, by decide +kernel⟩
theorem ok_settled_from {P : Program} {w : World} {K : PySem.W.Frag} {mg : Str → Option Value} {base h : Heap} (E : Bd K mg h) : Got P w K mg base (T K) d_settled_from 5 [(PySem.Str.ofString "p"), (PySem.Str.ofString "start")] m_settled_from := by
  obtain ⟨fd, F⟩ := E.c.def_ 9 (d := d_settled_from)
  obtain ⟨fd_Poly_is_zero, F_Poly_is_zero, G_Poly_is_zero⟩ := ok_Poly_is_zero (P := P) (w := w) (base := base) E
  obtain ⟨fd_is_settled, F_is_settled, G_is_settled⟩ := ok_is_settled (P := P) (w := w) (base := base) E
  obtain ⟨fd_Poly_shifted, F_Poly_shifted, G_Poly_shifted⟩ := ok_Poly_shifted (P := P) (w := w) (base := base) E
  have b_Poly_is_zero_1 : Dfl K (T K) fd_Poly_is_zero [(PySem.Str.ofString "self")] [] := dfl0 F_Poly_is_zero fun _ _ _ _ _ _ us hl => match us, hl with | [_], _ => rfl
  have b_is_settled_1 : Dfl K (T K) fd_is_settled [(PySem.Str.ofString "p")] [] := dfl0 F_is_settled fun _ _ _ _ _ _ us hl => match us, hl with | [_], _ => rfl
  have b_Poly_shifted_2 : Dfl K (T K) fd_Poly_shifted [(PySem.Str.ofString "self"), (PySem.Str.ofString "step")] [] := dfl0 F_Poly_shifted fun _ _ _ _ _ _ us hl => match us, hl with | [_, _], _ => rfl
  have sc := sc_settled_from
  have F' : FunD K (PySem.Str.ofString "settled_from") (PySem.Str.ofString "settled_from") (defArgs (top 12)) (defBody (top 12)) (defScope (top 12)) (d_settled_from.dvs K) [] (adr K (.g (PySem.Str.ofString "settled_from"))) fd := F
  have z := @fn_okE P w K mg base _ _ _ _ _ _ _ _ fd (T K) [(PySem.Str.ofString "p"), (PySem.Str.ofString "start"), (PySem.Str.ofString "step"), (PySem.Str.ofString "low"), (PySem.Str.ofString "high"), (PySem.Str.ofString "middle")] [(PySem.Str.ofString "p"), (PySem.Str.ofString "start")] 4 [] b_settled_from F' sc rfl
  have z2 : _ → FnOk P w K mg base (L2.CX P w) 5 (adr K (.g (PySem.Str.ofString "settled_from"))) fd [(PySem.Str.ofString "p"), (PySem.Str.ofString "start")] (spM K (T K) 2 m_settled_from) := z
  refine ⟨fd, F, z2 ?_⟩
  intro cdv A outer s H Ex X eX hr tk hp
  subst eX
  exact (zs_cons (z_if (tf_val (pf_prp (prp_of (c := 1) rfl E.f5 E.f10) G_Poly_is_zero rfl (hr.mono (by decide)) b_Poly_is_zero_1 (pf_v (pv 0)))) (zs_cons z_never zs_nil) zs_nil) (zs_cons (z_if (tf_val (pf_call (kf_fn G_is_settled (hr.mono (by decide)) b_is_settled_1 tk) rfl (glo_of E.X E.G E.f25) (keep_of E.f25) (af_cons (pf_mt (mt_of (c := 1) rfl E.f5 E.f24) (kf_fn G_Poly_shifted (hr.mono (by decide)) b_Poly_shifted_2 tk) (pf_v (pv 0)) (af_cons (pf_v (pv 1)) af_nil)) af_nil))) (zs_cons (z_ret (pf_v (pv 1))) zs_nil) zs_nil) (zs_cons (z_set (i := 2) sc.nd rfl (Or.inl rfl) pf_int) (zs_cons (z_while 1000000000 hp (tf_not (tf_val (pf_call (kf_fn G_is_settled (hr.mono (by decide)) b_is_settled_1 tk) rfl (glo_of E.X E.G E.f25) (keep_of E.f25) (af_cons (pf_mt (mt_of (c := 1) rfl E.f5 E.f24) (kf_fn G_Poly_shifted (hr.mono (by decide)) b_Poly_shifted_2 tk) (pf_v (pv 0)) (af_cons (pf_op of_add (pf_v (pv 1)) (pf_v (pv 2))) af_nil)) af_nil)))) (zs_cons (z_set (i := 2) sc.nd rfl (Or.inl rfl) (pf_op of_mul (pf_v (pv 2)) pf_int)) zs_nil)) (zs_cons (z_set (i := 3) sc.nd rfl (Or.inl rfl) (pf_op of_add (pf_v (pv 1)) (pf_op of_div (pf_v (pv 2)) pf_int))) (zs_cons (z_set (i := 4) sc.nd rfl (Or.inl rfl) (pf_op of_add (pf_v (pv 1)) (pf_v (pv 2)))) (zs_cons (z_while 1000000000 hp (tf_cmp of_gt (pf_op of_sub (pf_v (pv 4)) (pf_v (pv 3))) pf_int (by rfl)) (zs_cons (z_set (i := 5) sc.nd rfl (Or.inl rfl) (pf_op of_div (pf_op of_add (pf_v (pv 3)) (pf_v (pv 4))) pf_int)) (zs_cons (z_if (tf_val (pf_call (kf_fn G_is_settled (hr.mono (by decide)) b_is_settled_1 tk) rfl (glo_of E.X E.G E.f25) (keep_of E.f25) (af_cons (pf_mt (mt_of (c := 1) rfl E.f5 E.f24) (kf_fn G_Poly_shifted (hr.mono (by decide)) b_Poly_shifted_2 tk) (pf_v (pv 0)) (af_cons (pf_v (pv 5)) af_nil)) af_nil))) (zs_cons (z_set (i := 4) sc.nd rfl (Or.inl rfl) (pf_v (pv 5))) zs_nil) (zs_cons (z_set (i := 3) sc.nd rfl (Or.inl rfl) (pf_v (pv 5))) zs_nil)) zs_nil))) (zs_cons (z_ret (pf_v (pv 4))) zs_nil))))))))
/-! may_have_root -/
def b_may_have_root : En → SOut := (sCons (sSet 3 (fld ft_coefs (mt 1 (fnM 2 [] m_Poly_shifted) (rd 0) (aC (rd 1) aN)))) (sCons (sSet 4 (cst (.int 0))) (sCons (sFor (itRev (sl3 (rd 3) (isP (cst (.int 1))) noP)) (gN 5) (sCons (sSet 4 (op2 iMul (op2 iAdd (rd 4) (cl1 (fun ds => opt (k1 (fun i => .int (if i < 0 then -i else i)) ds)) (aC (rd 5) aN))) (op2 iSub (rd 2) (rd 1)))) sNil)) (sCons (sRet (op2 iLe (cl1 (fun ds => opt (k1 (fun i => .int (if i < 0 then -i else i)) ds)) (aC (ix (rd 3) (cst (.int 0))) aN)) (rd 4))) sNil))))
def m_may_have_root : En → Out D := mOf 6 [] b_may_have_root
theorem sc_may_have_root : FnScope [(PySem.Str.ofString "p"), (PySem.Str.ofString "low"), (PySem.Str.ofString "high"), (PySem.Str.ofString "numbers"), (PySem.Str.ofString "change"), (PySem.Str.ofString "number")] [(PySem.Str.ofString "p"), (PySem.Str.ofString "low"), (PySem.Str.ofString "high")] (defScope (top 13)) := ⟨rfl, rfl, rfl, by decide +kernel, rfl, by decide +kernel, by decide +kernel⟩
theorem ok_may_have_root {P : Program} {w : World} {K : PySem.W.Frag} {mg : Str → Option Value} {base h : Heap} (E : Bd K mg h) : Got P w K mg base (T K) d_may_have_root 5 [(PySem.Str.ofString "p"), (PySem.Str.ofString "low"), (PySem.Str.ofString "high")] m_may_have_root := by
  obtain ⟨fd, F⟩ := E.c.def_ 10 (d := d_may_have_root)
  obtain ⟨fd_Poly_shifted, F_Poly_shifted, G_Poly_shifted⟩ := ok_Poly_shifted (P := P) (w := w) (base := base) E
  have b_Poly_shifted_2 : Dfl K (T K) fd_Poly_shifted [(PySem.Str.ofString "self"), (PySem.Str.ofString "step")] [] := dfl0 F_Poly_shifted fun _ _ _ _ _ _ us hl => match us, hl with | [_, _], _ => rfl
  have sc := sc_may_have_root
  have F' : FunD K (PySem.Str.ofString "may_have_root") (PySem.Str.ofString "may_have_root") (defArgs (top 13)) (defBody (top 13)) (defScope (top 13)) (d_may_have_root.dvs K) [] (adr K (.g (PySem.Str.ofString "may_have_root"))) fd := F
  have z := @fn_okE P w K mg base _ _ _ _ _ _ _ _ fd (T K) [(PySem.Str.ofString "p"), (PySem.Str.ofString "low"), (PySem.Str.ofString "high"), (PySem.Str.ofString "numbers"), (PySem.Str.ofString "change"), (PySem.Str.ofString "number")] [(PySem.Str.ofString "p"), (PySem.Str.ofString "low"), (PySem.Str.ofString "high")] 4 [] b_may_have_root F' sc rfl
  have z2 : _ → FnOk P w K mg base (L2.CX P w) 5 (adr K (.g (PySem.Str.ofString "may_have_root"))) fd [(PySem.Str.ofString "p"), (PySem.Str.ofString "low"), (PySem.Str.ofString "high")] (spM K (T K) 3 m_may_have_root) := z
  refine ⟨fd, F, z2 ?_⟩
  intro cdv A outer s H Ex X eX hr tk hp
  subst eX
  exact (zs_cons (z_set (i := 3) sc.nd rfl (Or.inl rfl) (pf_fld E.tft_coefs (pf_mt (mt_of (c := 1) rfl E.f5 E.f24) (kf_fn G_Poly_shifted (hr.mono (by decide)) b_Poly_shifted_2 tk) (pf_v (pv 0)) (af_cons (pf_v (pv 1)) af_nil)))) (zs_cons (z_set (i := 4) sc.nd rfl (Or.inl rfl) pf_int) (zs_cons (z_for hp rfl (if_rev rfl (free_of E.X E.G E.f27) (pf_sl (pf_v (pv 3)) (sf_some pf_int) sf_none)) (gf_name (i := 5) sc.nd rfl (Or.inl rfl)) (zs_cons (z_set (i := 4) sc.nd rfl (Or.inl rfl) (pf_op of_mul (pf_op of_add (pf_v (pv 4)) (pf_callB cf_abs rfl (free_of E.X E.G E.f28) bt_abs (af_cons (pf_v (pv 5)) af_nil))) (pf_op of_sub (pf_v (pv 2)) (pf_v (pv 1))))) zs_nil)) (zs_cons (z_ret (pf_cmp of_le (pf_callB cf_abs rfl (free_of E.X E.G E.f28) bt_abs (af_cons (pf_ix (pf_v (pv 3)) pf_int) af_nil)) (pf_v (pv 4)) (by rfl))) zs_nil))))
/-! roots_between -/
def b_roots_between : En → SOut := (sCons (sIf (tst (prp 1 m_Poly_is_zero (rd 0))) (sCons sEr sNil) sNil) (sCons (sSetN 3 (nLst aN)) (sCons (sSetN 4 (nLst aN)) (sCons (sIf (tst (op2 iLe (rd 1) (rd 2))) (sCons (sApp 4 (vTup (aC (rd 1) (aC (rd 2) aN)))) sNil) sNil) (sCons (whL (tst (op2 iGt (vLen (vw 4)) (cst (.int 0)))) (sCons (sAsg (popE 4) (gT 2 (gsC (gN 5) (gsC (gN 6) gsN)))) (sCons (sIf (tst (cl1 (fnM 3 [] m_may_have_root) (aC (rd 0) (aC (rd 5) (aC (rd 6) aN))))) (sCons (sIf (tst (op2 sEq (rd 5) (rd 6))) (sCons (sApp 3 (rd 5)) sNil) (sCons (sSet 7 (op2 iDiv (op2 iAdd (rd 5) (rd 6)) (cst (.int 2)))) (sCons (sApp 4 (vTup (aC (op2 iAdd (rd 7) (cst (.int 1))) (aC (rd 6) aN)))) (sCons (sApp 4 (vTup (aC (rd 5) (aC (rd 7) aN)))) sNil)))) sNil) sNil) sNil)) 1000000000) (sCons (sRet (rd 3)) sNil))))))
def m_roots_between : En → Out D := mOf 8 [] b_roots_between
theorem sc_roots_between : FnScope [(PySem.Str.ofString "p"), (PySem.Str.ofString "low"), (PySem.Str.ofString "high"), (PySem.Str.ofString "found"), (PySem.Str.ofString "pending"), (PySem.Str.ofString "left"), (PySem.Str.ofString "right"), (PySem.Str.ofString "middle")] [(PySem.Str.ofString "p"), (PySem.Str.ofString "low"), (PySem.Str.ofString "high")] (defScope (top 14)) := ⟨rfl, rfl, rfl, by decide +kernel, rfl, by decide +kernel, by decide +kernel⟩
theorem ok_roots_between {P : Program} {w : World} {K : PySem.W.Frag} {mg : Str → Option Value} {base h : Heap} (E : Bd K mg h) : Got P w K mg base (T K) d_roots_between 6 [(PySem.Str.ofString "p"), (PySem.Str.ofString "low"), (PySem.Str.ofString "high")] m_roots_between := by
  obtain ⟨fd, F⟩ := E.c.def_ 11 (d := d_roots_between)
  obtain ⟨fd_Poly_is_zero, F_Poly_is_zero, G_Poly_is_zero⟩ := ok_Poly_is_zero (P := P) (w := w) (base := base) E
  obtain ⟨fd_may_have_root, F_may_have_root, G_may_have_root⟩ := ok_may_have_root (P := P) (w := w) (base := base) E
  have b_Poly_is_zero_1 : Dfl K (T K) fd_Poly_is_zero [(PySem.Str.ofString "self")] [] := dfl0 F_Poly_is_zero fun _ _ _ _ _ _ us hl => match us, hl with | [_], _ => rfl
  have b_may_have_root_3 : Dfl K (T K) fd_may_have_root [(PySem.Str.ofString "p"), (PySem.Str.ofString "low"), (PySem.Str.ofString "high")] [] := dfl0 F_may_have_root fun _ _ _ _ _ _ us hl => match us, hl with | [_, _, _], _ => rfl
  have sc := sc_roots_between
  have F' : FunD K (PySem.Str.ofString "roots_between") (PySem.Str.ofString "roots_between") (defArgs (top 14)) (defBody (top 14)) (defScope (top 14)) (d_roots_between.dvs K) [] (adr K (.g (PySem.Str.ofString "roots_between"))) fd := F
  have z := @fn_okE P w K mg base _ _ _ _ _ _ _ _ fd (T K) [(PySem.Str.ofString "p"), (PySem.Str.ofString "low"), (PySem.Str.ofString "high"), (PySem.Str.ofString "found"), (PySem.Str.ofString "pending"), (PySem.Str.ofString "left"), (PySem.Str.ofString "right"), (PySem.Str.ofString "middle")] [(PySem.Str.ofString "p"), (PySem.Str.ofString "low"), (PySem.Str.ofString "high")] 5 [] b_roots_between F' sc rfl
  have z2 : _ → FnOk P w K mg base (L2.CX P w) 6 (adr K (.g (PySem.Str.ofString "roots_between"))) fd [(PySem.Str.ofString "p"), (PySem.Str.ofString "low"), (PySem.Str.ofString "high")] (spM K (T K) 3 m_roots_between) := z
  refine ⟨fd, F, z2 ?_⟩
  intro cdv A outer s H Ex X eX hr tk hp
  subst eX
  exact (zs_cons (z_if (tf_val (pf_prp (prp_of (c := 1) rfl E.f5 E.f10) G_Poly_is_zero rfl (hr.mono (by decide)) b_Poly_is_zero_1 (pf_v (pv 0)))) (zs_cons z_never zs_nil) zs_nil) (zs_cons (z_setN (i := 3) sc.nd rfl (Or.inl rfl) (pn_lst af_nil)) (zs_cons (z_setN (i := 4) sc.nd rfl (Or.inl rfl) (pn_lst af_nil)) (zs_cons (z_if (tf_cmp of_le (pf_v (pv 1)) (pf_v (pv 2)) (by rfl)) (zs_cons (z_app (pv 4) (pf_tup (af_cons (pf_v (pv 1)) (af_cons (pf_v (pv 2)) af_nil)))) zs_nil) zs_nil) (zs_cons (z_while 1000000000 hp (tf_cmp of_gt (pf_lenV (vf_v (pv 4)) rfl (free_of E.X E.G E.f0) bt_len) pf_int (by rfl)) (zs_cons (z_asg (pf_pop (pv 4)) (gf_tup rfl (gfs_cons (gf_name (i := 5) sc.nd rfl (Or.inl rfl)) (gfs_cons (gf_name (i := 6) sc.nd rfl (Or.inl rfl)) gfs_nil)))) (zs_cons (z_if (tf_val (pf_call (kf_fn G_may_have_root (hr.mono (by decide)) b_may_have_root_3 tk) rfl (glo_of E.X E.G E.f29) (keep_of E.f29) (af_cons (pf_v (pv 0)) (af_cons (pf_v (pv 5)) (af_cons (pf_v (pv 6)) af_nil))))) (zs_cons (z_if (tf_cmp of_eq (pf_v (pv 5)) (pf_v (pv 6)) (by rfl)) (zs_cons (z_app (pv 3) (pf_v (pv 5))) zs_nil) (zs_cons (z_set (i := 7) sc.nd rfl (Or.inl rfl) (pf_op of_div (pf_op of_add (pf_v (pv 5)) (pf_v (pv 6))) pf_int)) (zs_cons (z_app (pv 4) (pf_tup (af_cons (pf_op of_add (pf_v (pv 7)) pf_int) (af_cons (pf_v (pv 6)) af_nil)))) (zs_cons (z_app (pv 4) (pf_tup (af_cons (pf_v (pv 5)) (af_cons (pf_v (pv 7)) af_nil)))) zs_nil)))) zs_nil) zs_nil) zs_nil))) (zs_cons (z_ret (pf_v (pv 3))) zs_nil))))))
/-! roots_from -/
def b_roots_from : En → SOut := (sCons (sSet 2 (op2 iSub (clK (kwM 1 1 m_settled_from) (aC (rd 0) aN) (aC (rd 1) aN)) (cst (.int 1)))) (sCons (sRet (clK (kwM 1 2 m_roots_between) (aC (rd 0) aN) (aC (rd 1) (aC (rd 2) aN)))) sNil))
def m_roots_from : En → Out D := mOf 3 [] b_roots_from
theorem sc_roots_from : FnScope [(PySem.Str.ofString "p"), (PySem.Str.ofString "start"), (PySem.Str.ofString "high")] [(PySem.Str.ofString "p"), (PySem.Str.ofString "start")] (defScope (top 15)) := ⟨rfl, rfl, rfl, by decide +kernel, rfl, by decide +kernel, by decide +kernel⟩
theorem ok_roots_from {P : Program} {w : World} {K : PySem.W.Frag} {mg : Str → Option Value} {base h : Heap} (E : Bd K mg h) : Got P w K mg base (T K) d_roots_from 7 [(PySem.Str.ofString "p"), (PySem.Str.ofString "start")] m_roots_from := by
  obtain ⟨fd, F⟩ := E.c.def_ 12 (d := d_roots_from)
  obtain ⟨fd_settled_from, F_settled_from, G_settled_from⟩ := ok_settled_from (P := P) (w := w) (base := base) E
  obtain ⟨fd_roots_between, F_roots_between, G_roots_between⟩ := ok_roots_between (P := P) (w := w) (base := base) E
  have bk_settled_from : KBn K fd_settled_from [(PySem.Str.ofString "p"), (PySem.Str.ofString "start")] 1 [(PySem.Str.ofString "start")] (fun us ws => us ++ ws) (fun vs zs => vs ++ zs) := kbn0 F_settled_from 1 fun _ _ _ _ _ _ us ws hl hw => match us, ws, hl, hw with | [_], [_], _, _ => rfl
  have bk_roots_between : KBn K fd_roots_between [(PySem.Str.ofString "p"), (PySem.Str.ofString "low"), (PySem.Str.ofString "high")] 1 [(PySem.Str.ofString "low"), (PySem.Str.ofString "high")] (fun us ws => us ++ ws) (fun vs zs => vs ++ zs) := kbn0 F_roots_between 1 fun _ _ _ _ _ _ us ws hl hw => match us, ws, hl, hw with | [_], [_, _], _, _ => rfl
  have sc := sc_roots_from
  have F' : FunD K (PySem.Str.ofString "roots_from") (PySem.Str.ofString "roots_from") (defArgs (top 15)) (defBody (top 15)) (defScope (top 15)) (d_roots_from.dvs K) [] (adr K (.g (PySem.Str.ofString "roots_from"))) fd := F
  have z := @fn_okE P w K mg base _ _ _ _ _ _ _ _ fd (T K) [(PySem.Str.ofString "p"), (PySem.Str.ofString "start"), (PySem.Str.ofString "high")] [(PySem.Str.ofString "p"), (PySem.Str.ofString "start")] 6 [] b_roots_from F' sc rfl
  have z2 : _ → FnOk P w K mg base (L2.CX P w) 7 (adr K (.g (PySem.Str.ofString "roots_from"))) fd [(PySem.Str.ofString "p"), (PySem.Str.ofString "start")] (spM K (T K) 2 m_roots_from) := z
  refine ⟨fd, F, z2 ?_⟩
  intro cdv A outer s H Ex X eX hr tk hp
  subst eX
  exact (zs_cons (z_set (i := 2) sc.nd rfl (Or.inl rfl) (pf_op of_sub (pf_callK (kfk_fn G_settled_from (hr.mono (by decide)) bk_settled_from rfl tk) rfl (glo_of E.X E.G E.f26) (keep_of E.f26) (af_cons (pf_v (pv 0)) af_nil) (kw_cons (pf_v (pv 1)) kw_nil)) pf_int)) (zs_cons (z_ret (pf_callK (kfk_fn G_roots_between (hr.mono (by decide)) bk_roots_between rfl tk) rfl (glo_of E.X E.G E.f30) (keep_of E.f30) (af_cons (pf_v (pv 0)) af_nil) (kw_cons (pf_v (pv 1)) (kw_cons (pf_v (pv 2)) kw_nil)))) zs_nil))
/-! free_from -/
def b_free_from : En → SOut := (sCons (sSet 2 (clK (kwM 1 1 m_roots_from) (aC (rd 0) aN) (aC (rd 1) aN))) (sCons (sIf (tst (op2 sEq (vLen (vw 2)) (cst (.int 0)))) (sCons (sRet (rd 1)) sNil) sNil) (sCons (sRet (op2 iAdd (ixV 2 (iNeg (cst (.int 1)))) (cst (.int 1)))) sNil)))
def m_free_from : En → Out D := mOf 3 [] b_free_from
theorem sc_free_from : FnScope [(PySem.Str.ofString "p"), (PySem.Str.ofString "start"), (PySem.Str.ofString "roots")] [(PySem.Str.ofString "p"), (PySem.Str.ofString "start")] (defScope (top 16)) := ⟨rfl, rfl, rfl, by decide +kernel, rfl, by decide +kernel, by decide +kernel⟩
theorem ok_free_from {P : Program} {w : World} {K : PySem.W.Frag} {mg : Str → Option Value} {base h : Heap} (E : Bd K mg h) : Got P w K mg base (T K) d_free_from 8 [(PySem.Str.ofString "p"), (PySem.Str.ofString "start")] m_free_from := by
  obtain ⟨fd, F⟩ := E.c.def_ 13 (d := d_free_from)
  obtain ⟨fd_roots_from, F_roots_from, G_roots_from⟩ := ok_roots_from (P := P) (w := w) (base := base) E
  have bk_roots_from : KBn K fd_roots_from [(PySem.Str.ofString "p"), (PySem.Str.ofString "start")] 1 [(PySem.Str.ofString "start")] (fun us ws => us ++ ws) (fun vs zs => vs ++ zs) := kbn0 F_roots_from 1 fun _ _ _ _ _ _ us ws hl hw => match us, ws, hl, hw with | [_], [_], _, _ => rfl
  have sc := sc_free_from
  have F' : FunD K (PySem.Str.ofString "free_from") (PySem.Str.ofString "free_from") (defArgs (top 16)) (defBody (top 16)) (defScope (top 16)) (d_free_from.dvs K) [] (adr K (.g (PySem.Str.ofString "free_from"))) fd := F
  have z := @fn_okE P w K mg base _ _ _ _ _ _ _ _ fd (T K) [(PySem.Str.ofString "p"), (PySem.Str.ofString "start"), (PySem.Str.ofString "roots")] [(PySem.Str.ofString "p"), (PySem.Str.ofString "start")] 7 [] b_free_from F' sc rfl
  have z2 : _ → FnOk P w K mg base (L2.CX P w) 8 (adr K (.g (PySem.Str.ofString "free_from"))) fd [(PySem.Str.ofString "p"), (PySem.Str.ofString "start")] (spM K (T K) 2 m_free_from) := z
  refine ⟨fd, F, z2 ?_⟩
  intro cdv A outer s H Ex X eX hr tk hp
  subst eX
  exact (zs_cons (z_set (i := 2) sc.nd rfl (Or.inl rfl) (pf_callK (kfk_fn G_roots_from (hr.mono (by decide)) bk_roots_from rfl tk) rfl (glo_of E.X E.G E.f31) (keep_of E.f31) (af_cons (pf_v (pv 0)) af_nil) (kw_cons (pf_v (pv 1)) kw_nil))) (zs_cons (z_if (tf_cmp of_eq (pf_lenV (vf_v (pv 2)) rfl (free_of E.X E.G E.f0) bt_len) pf_int (by rfl)) (zs_cons (z_ret (pf_v (pv 1))) zs_nil) zs_nil) (zs_cons (z_ret (pf_op of_add (pf_ixV (pv 2) (pf_neg pf_int)) pf_int)) zs_nil)))
/-! Operator.part -/
def b_Operator_part : En → SOut := (sCons (sIf (tst (chn iLe iLt (cst (.int 0)) (rd 1) (cl1 (fun ds => opt (kLen ds)) (aC (fld ft_coefs (rd 0)) aN)))) (sCons (sRet (ix (fld ft_coefs (rd 0)) (rd 1))) sNil) sNil) (sCons (sRet (cl1 (mkM 1 2 3 [.int 1] m_PolyD_initD) (aC (fz (nLst aN)) aN))) sNil))
def m_Operator_part : En → Out D := mOf 2 [] b_Operator_part
theorem sc_Operator_part : FnScope [(PySem.Str.ofString "self"), (PySem.Str.ofString "index")] [(PySem.Str.ofString "self"), (PySem.Str.ofString "index")] (defScope (mem 35 5)) := ⟨rfl, rfl, rfl, by decide +kernel, rfl, by decide +kernel, by decide +kernel⟩
theorem ok_Operator_part {P : Program} {w : World} {K : PySem.W.Frag} {mg : Str → Option Value} {base h : Heap} (E : Bd K mg h) : Got P w K mg base (T K) d_Operator_part 4 [(PySem.Str.ofString "self"), (PySem.Str.ofString "index")] m_Operator_part := by
  obtain ⟨fd, F⟩ := E.c.def_ 14 (d := d_Operator_part)
  obtain ⟨fd_PolyD_initD, F_PolyD_initD, G_PolyD_initD⟩ := ok_PolyD_initD (P := P) (w := w) (base := base) E
  have b_PolyD_initD_2 : Dfl K (T K) fd_PolyD_initD [(PySem.Str.ofString "self"), (PySem.Str.ofString "coefs"), (PySem.Str.ofString "den")] [.int 1] := dfl1 F_PolyD_initD 2 0 (by intro h; cases h) rfl (fun _ => .cons (.int _) (.nil)) fun _ _ _ _ _ _ _ us its hl hi => match us, its, hl, hi with | [_, _], [_], _, _ => ⟨_, rfl, rfl⟩
  have sc := sc_Operator_part
  have F' : FunD K (PySem.Str.ofString "part") (PySem.Str.ofString "Operator.part") (defArgs (mem 35 5)) (defBody (mem 35 5)) (defScope (mem 35 5)) (d_Operator_part.dvs K) [] (adr K (.m (PySem.Str.ofString "Operator") (PySem.Str.ofString "part"))) fd := F
  have z := @fn_okE P w K mg base _ _ _ _ _ _ _ _ fd (T K) [(PySem.Str.ofString "self"), (PySem.Str.ofString "index")] [(PySem.Str.ofString "self"), (PySem.Str.ofString "index")] 3 [] b_Operator_part F' sc rfl
  have z2 : _ → FnOk P w K mg base (L2.CX P w) 4 (adr K (.m (PySem.Str.ofString "Operator") (PySem.Str.ofString "part"))) fd [(PySem.Str.ofString "self"), (PySem.Str.ofString "index")] (spM K (T K) 2 m_Operator_part) := z
  refine ⟨fd, F, z2 ?_⟩
  intro cdv A outer s H Ex X eX hr tk hp
  subst eX
  exact (zs_cons (z_if (tf_chn of_le of_lt pf_int (pf_v (pv 1)) (pf_callB cf_len rfl (free_of E.X E.G E.f0) bt_len (af_cons (pf_fld E.tft_coefs (pf_v (pv 0))) af_nil))) (zs_cons (z_ret (pf_ix (pf_fld E.tft_coefs (pf_v (pv 0))) (pf_v (pv 1)))) zs_nil) zs_nil) (zs_cons (z_ret (pf_call (kf_mk (mk_of (c := 1) rfl E.f22) G_PolyD_initD (hr.mono (by decide)) b_PolyD_initD_2 tk) rfl (glo_of E.X E.G E.f23) (keep_of E.f23) (af_cons (pf_n (pn_lst af_nil)) af_nil))) zs_nil))
/-! Operator.lead -/
def b_Operator_lead : En → SOut := (sCons (sRet (mt 4 (fnM 2 [] m_Operator_part) (rd 0) (aC (op2 iSub (cl1 (fun ds => opt (kLen ds)) (aC (fld ft_coefs (rd 0)) aN)) (cst (.int 1))) aN))) sNil)
def m_Operator_lead : En → Out D := mOf 1 [] b_Operator_lead
theorem sc_Operator_lead : FnScope [(PySem.Str.ofString "self")] [(PySem.Str.ofString "self")] (defScope (mem 35 4)) := ⟨rfl, rfl, rfl, by decide +kernel, rfl, by decide +kernel, by decide +kernel⟩
theorem ok_Operator_lead {P : Program} {w : World} {K : PySem.W.Frag} {mg : Str → Option Value} {base h : Heap} (E : Bd K mg h) : Got P w K mg base (T K) d_Operator_lead 5 [(PySem.Str.ofString "self")] m_Operator_lead := by
  obtain ⟨fd, F⟩ := E.c.def_ 15 (d := d_Operator_lead)
  obtain ⟨fd_Operator_part, F_Operator_part, G_Operator_part⟩ := ok_Operator_part (P := P) (w := w) (base := base) E
  have b_Operator_part_2 : Dfl K (T K) fd_Operator_part [(PySem.Str.ofString "self"), (PySem.Str.ofString "index")] [] := dfl0 F_Operator_part fun _ _ _ _ _ _ us hl => match us, hl with | [_, _], _ => rfl
  have sc := sc_Operator_lead
  have F' : FunD K (PySem.Str.ofString "lead") (PySem.Str.ofString "Operator.lead") (defArgs (mem 35 4)) (defBody (mem 35 4)) (defScope (mem 35 4)) (d_Operator_lead.dvs K) [] (adr K (.p (PySem.Str.ofString "Operator") (PySem.Str.ofString "lead"))) fd := F
  have z := @fn_okE P w K mg base _ _ _ _ _ _ _ _ fd (T K) [(PySem.Str.ofString "self")] [(PySem.Str.ofString "self")] 4 [] b_Operator_lead F' sc rfl
  have z2 : _ → FnOk P w K mg base (L2.CX P w) 5 (adr K (.p (PySem.Str.ofString "Operator") (PySem.Str.ofString "lead"))) fd [(PySem.Str.ofString "self")] (spM K (T K) 1 m_Operator_lead) := z
  refine ⟨fd, F, z2 ?_⟩
  intro cdv A outer s H Ex X eX hr tk hp
  subst eX
  exact (zs_cons (z_ret (pf_mt (mt_of (c := 4) rfl E.f7 E.f32) (kf_fn G_Operator_part (hr.mono (by decide)) b_Operator_part_2 tk) (pf_v (pv 0)) (af_cons (pf_op of_sub (pf_callB cf_len rfl (free_of E.X E.G E.f0) bt_len (af_cons (pf_fld E.tft_coefs (pf_v (pv 0))) af_nil)) pf_int) af_nil))) zs_nil)
/-! Operator.order -/
def b_Operator_order : En → SOut := (sCons (sRet (op2 iSub (cl1 (fun ds => opt (kLen ds)) (aC (fld ft_coefs (rd 0)) aN)) (cst (.int 1)))) sNil)
def m_Operator_order : En → Out D := mOf 1 [] b_Operator_order
theorem sc_Operator_order : FnScope [(PySem.Str.ofString "self")] [(PySem.Str.ofString "self")] (defScope (mem 35 2)) := ⟨rfl, rfl, rfl, by decide +kernel, rfl, by decide +kernel, by decide +kernel⟩
theorem ok_Operator_order {P : Program} {w : World} {K : PySem.W.Frag} {mg : Str → Option Value} {base h : Heap} (E : Bd K mg h) : Got P w K mg base (T K) d_Operator_order 1 [(PySem.Str.ofString "self")] m_Operator_order := by
  obtain ⟨fd, F⟩ := E.c.def_ 16 (d := d_Operator_order)
  have sc := sc_Operator_order
  have F' : FunD K (PySem.Str.ofString "order") (PySem.Str.ofString "Operator.order") (defArgs (mem 35 2)) (defBody (mem 35 2)) (defScope (mem 35 2)) (d_Operator_order.dvs K) [] (adr K (.p (PySem.Str.ofString "Operator") (PySem.Str.ofString "order"))) fd := F
  have z := @fn_okE P w K mg base _ _ _ _ _ _ _ _ fd (T K) [(PySem.Str.ofString "self")] [(PySem.Str.ofString "self")] 0 [] b_Operator_order F' sc rfl
  have z2 : _ → FnOk P w K mg base (L2.CX P w) 1 (adr K (.p (PySem.Str.ofString "Operator") (PySem.Str.ofString "order"))) fd [(PySem.Str.ofString "self")] (spM K (T K) 1 m_Operator_order) := z
  refine ⟨fd, F, z2 ?_⟩
  intro cdv A outer s H Ex X eX hr tk hp
  subst eX
  exact (zs_cons (z_ret (pf_op of_sub (pf_callB cf_len rfl (free_of E.X E.G E.f0) bt_len (af_cons (pf_fld E.tft_coefs (pf_v (pv 0))) af_nil)) pf_int)) zs_nil)
/-! needed -/
def b_needed : En → SOut := (sCons (sIf (tst (prp 4 m_Operator_is_zero (rd 0))) (sCons sEr sNil) sNil) (sCons (sRet (op2 iAdd (clK (kwM 1 1 m_free_from) (aC (prp 4 m_Operator_lead (rd 0)) aN) (aC (cst (.int 0)) aN)) (prp 4 m_Operator_order (rd 0)))) sNil))
def m_needed : En → Out D := mOf 1 [] b_needed
theorem sc_needed : FnScope [(PySem.Str.ofString "operator")] [(PySem.Str.ofString "operator")] (defScope (top 37)) := ⟨rfl, rfl, rfl, by decide +kernel, rfl, by decide +kernel, by decide +kernel⟩
theorem ok_needed {P : Program} {w : World} {K : PySem.W.Frag} {mg : Str → Option Value} {base h : Heap} (E : Bd K mg h) : Got P w K mg base (T K) d_needed 9 [(PySem.Str.ofString "operator")] m_needed := by
  obtain ⟨fd, F⟩ := E.c.def_ 17 (d := d_needed)
  obtain ⟨fd_Operator_is_zero, F_Operator_is_zero, G_Operator_is_zero⟩ := ok_Operator_is_zero (P := P) (w := w) (base := base) E
  obtain ⟨fd_free_from, F_free_from, G_free_from⟩ := ok_free_from (P := P) (w := w) (base := base) E
  obtain ⟨fd_Operator_lead, F_Operator_lead, G_Operator_lead⟩ := ok_Operator_lead (P := P) (w := w) (base := base) E
  obtain ⟨fd_Operator_order, F_Operator_order, G_Operator_order⟩ := ok_Operator_order (P := P) (w := w) (base := base) E
  have b_Operator_is_zero_1 : Dfl K (T K) fd_Operator_is_zero [(PySem.Str.ofString "self")] [] := dfl0 F_Operator_is_zero fun _ _ _ _ _ _ us hl => match us, hl with | [_], _ => rfl
  have bk_free_from : KBn K fd_free_from [(PySem.Str.ofString "p"), (PySem.Str.ofString "start")] 1 [(PySem.Str.ofString "start")] (fun us ws => us ++ ws) (fun vs zs => vs ++ zs) := kbn0 F_free_from 1 fun _ _ _ _ _ _ us ws hl hw => match us, ws, hl, hw with | [_], [_], _, _ => rfl
  have b_Operator_lead_1 : Dfl K (T K) fd_Operator_lead [(PySem.Str.ofString "self")] [] := dfl0 F_Operator_lead fun _ _ _ _ _ _ us hl => match us, hl with | [_], _ => rfl
  have b_Operator_order_1 : Dfl K (T K) fd_Operator_order [(PySem.Str.ofString "self")] [] := dfl0 F_Operator_order fun _ _ _ _ _ _ us hl => match us, hl with | [_], _ => rfl
  have sc := sc_needed
  have F' : FunD K (PySem.Str.ofString "needed") (PySem.Str.ofString "needed") (defArgs (top 37)) (defBody (top 37)) (defScope (top 37)) (d_needed.dvs K) [] (adr K (.g (PySem.Str.ofString "needed"))) fd := F
  have z := @fn_okE P w K mg base _ _ _ _ _ _ _ _ fd (T K) [(PySem.Str.ofString "operator")] [(PySem.Str.ofString "operator")] 8 [] b_needed F' sc rfl
  have z2 : _ → FnOk P w K mg base (L2.CX P w) 9 (adr K (.g (PySem.Str.ofString "needed"))) fd [(PySem.Str.ofString "operator")] (spM K (T K) 1 m_needed) := z
  refine ⟨fd, F, z2 ?_⟩
  intro cdv A outer s H Ex X eX hr tk hp
  subst eX
  exact (zs_cons (z_if (tf_val (pf_prp (prp_of (c := 4) rfl E.f7 E.f9) G_Operator_is_zero rfl (hr.mono (by decide)) b_Operator_is_zero_1 (pf_v (pv 0)))) (zs_cons z_never zs_nil) zs_nil) (zs_cons (z_ret (pf_op of_add (pf_callK (kfk_fn G_free_from (hr.mono (by decide)) bk_free_from rfl tk) rfl (glo_of E.X E.G E.f34) (keep_of E.f34) (af_cons (pf_prp (prp_of (c := 4) rfl E.f7 E.f33) G_Operator_lead rfl (hr.mono (by decide)) b_Operator_lead_1 (pf_v (pv 0))) af_nil) (kw_cons pf_int kw_nil)) (pf_prp (prp_of (c := 4) rfl E.f7 E.f35) G_Operator_order rfl (hr.mono (by decide)) b_Operator_order_1 (pf_v (pv 0))))) zs_nil))
/-! Row.__init__ -/
def b_RowD_initD : En → SOut := (sCons (sIf (tst (op2 iLt (vLen (vw 2)) (cl1 (fnM 1 [] m_needed) (aC (rd 1) aN)))) (sCons sEr sNil) sNil) (sCons (sFldS ft_operator 0 (rd 1)) (sCons (sFldS ft_initial 0 (vTupO (vw 2))) sNil)))
def m_RowD_initD : En → Out D := mOf 3 [0] b_RowD_initD
theorem sc_RowD_initD : FnScope [(PySem.Str.ofString "self"), (PySem.Str.ofString "operator"), (PySem.Str.ofString "initial")] [(PySem.Str.ofString "self"), (PySem.Str.ofString "operator"), (PySem.Str.ofString "initial")] (defScope (mem 38 0)) := ⟨rfl, rfl, rfl, by decide +kernel, rfl, by decide +kernel, by decide +kernel⟩
theorem ok_RowD_initD {P : Program} {w : World} {K : PySem.W.Frag} {mg : Str → Option Value} {base h : Heap} (E : Bd K mg h) : Got P w K mg base (T K) d_RowD_initD 10 [(PySem.Str.ofString "self"), (PySem.Str.ofString "operator"), (PySem.Str.ofString "initial")] m_RowD_initD := by
  obtain ⟨fd, F⟩ := E.c.def_ 18 (d := d_RowD_initD)
  obtain ⟨fd_needed, F_needed, G_needed⟩ := ok_needed (P := P) (w := w) (base := base) E
  have b_needed_1 : Dfl K (T K) fd_needed [(PySem.Str.ofString "operator")] [] := dfl0 F_needed fun _ _ _ _ _ _ us hl => match us, hl with | [_], _ => rfl
  have sc := sc_RowD_initD
  have F' : FunD K (PySem.Str.ofString "__init__") (PySem.Str.ofString "Row.__init__") (defArgs (mem 38 0)) (defBody (mem 38 0)) (defScope (mem 38 0)) (d_RowD_initD.dvs K) [] (adr K (.m (PySem.Str.ofString "Row") (PySem.Str.ofString "__init__"))) fd := F
  have z := @fn_okE P w K mg base _ _ _ _ _ _ _ _ fd (T K) [(PySem.Str.ofString "self"), (PySem.Str.ofString "operator"), (PySem.Str.ofString "initial")] [(PySem.Str.ofString "self"), (PySem.Str.ofString "operator"), (PySem.Str.ofString "initial")] 9 [0] b_RowD_initD F' sc rfl
  have z2 : _ → FnOk P w K mg base (L2.CX P w) 10 (adr K (.m (PySem.Str.ofString "Row") (PySem.Str.ofString "__init__"))) fd [(PySem.Str.ofString "self"), (PySem.Str.ofString "operator"), (PySem.Str.ofString "initial")] (spM K (T K) 3 m_RowD_initD) := z
  refine ⟨fd, F, z2 ?_⟩
  intro cdv A outer s H Ex X eX hr tk hp
  subst eX
  exact (zs_cons (z_if (tf_cmp of_lt (pf_lenV (vf_v (pv 2)) rfl (free_of E.X E.G E.f0) bt_len) (pf_call (kf_fn G_needed (hr.mono (by decide)) b_needed_1 tk) rfl (glo_of E.X E.G E.f36) (keep_of E.f36) (af_cons (pf_v (pv 1)) af_nil)) (by rfl)) (zs_cons z_never zs_nil) zs_nil) (zs_cons (z_fld E.tft_operator (fun c _ _ => ct_len (by rfl) c) (pv 0) (pf_v (pv 1))) (zs_cons (z_fld E.tft_initial (fun c _ _ => ct_len (by rfl) c) (pv 0) (pf_tupV (vf_v (pv 2)) rfl (free_of E.X E.G E.f16) bt_tuple)) zs_nil)))
/-! Fraction.__init__ -/
def b_FractionD_initD : En → SOut := (sCons (sIf (tst (op2 sEq (rd 2) (cst (.int 0)))) (sCons sEr sNil) sNil) (sCons (sSet 3 (cl1 (fun ds => opt (k2 (fun i j => .int ((Nat.gcd i.natAbs j.natAbs : Nat) : Int)) ds)) (aC (rd 1) (aC (rd 2) aN)))) (sCons (sIf (tst (op2 iLt (rd 2) (cst (.int 0)))) (sCons (sSet 3 (iNeg (rd 3))) sNil) sNil) (sCons (sFldS ft_num 0 (op2 iDiv (rd 1) (rd 3))) (sCons (sFldS ft_den 0 (op2 iDiv (rd 2) (rd 3))) sNil)))))
def m_FractionD_initD : En → Out D := mOf 4 [0] b_FractionD_initD
theorem sc_FractionD_initD : FnScope [(PySem.Str.ofString "self"), (PySem.Str.ofString "num"), (PySem.Str.ofString "den"), (PySem.Str.ofString "divisor")] [(PySem.Str.ofString "self"), (PySem.Str.ofString "num"), (PySem.Str.ofString "den")] (defScope (mem 9 0)) := ⟨rfl, rfl, rfl, by decide +kernel, rfl, by decide +kernel, by decide +kernel⟩
theorem ok_FractionD_initD {P : Program} {w : World} {K : PySem.W.Frag} {mg : Str → Option Value} {base h : Heap} (E : Bd K mg h) : Got P w K mg base (T K) d_FractionD_initD 1 [(PySem.Str.ofString "self"), (PySem.Str.ofString "num"), (PySem.Str.ofString "den")] m_FractionD_initD := by
  obtain ⟨fd, F⟩ := E.c.def_ 19 (d := d_FractionD_initD)
  have sc := sc_FractionD_initD
  have F' : FunD K (PySem.Str.ofString "__init__") (PySem.Str.ofString "Fraction.__init__") (defArgs (mem 9 0)) (defBody (mem 9 0)) (defScope (mem 9 0)) (d_FractionD_initD.dvs K) [] (adr K (.m (PySem.Str.ofString "Fraction") (PySem.Str.ofString "__init__"))) fd := F
  have z := @fn_okE P w K mg base _ _ _ _ _ _ _ _ fd (T K) [(PySem.Str.ofString "self"), (PySem.Str.ofString "num"), (PySem.Str.ofString "den"), (PySem.Str.ofString "divisor")] [(PySem.Str.ofString "self"), (PySem.Str.ofString "num"), (PySem.Str.ofString "den")] 0 [0] b_FractionD_initD F' sc rfl
  have z2 : _ → FnOk P w K mg base (L2.CX P w) 1 (adr K (.m (PySem.Str.ofString "Fraction") (PySem.Str.ofString "__init__"))) fd [(PySem.Str.ofString "self"), (PySem.Str.ofString "num"), (PySem.Str.ofString "den")] (spM K (T K) 3 m_FractionD_initD) := z
  refine ⟨fd, F, z2 ?_⟩
  intro cdv A outer s H Ex X eX hr tk hp
  subst eX
  exact (zs_cons (z_if (tf_cmp of_eq (pf_v (pv 2)) pf_int (by rfl)) (zs_cons z_never zs_nil) zs_nil) (zs_cons (z_set (i := 3) sc.nd rfl (Or.inl rfl) (pf_callG cf_gcd rfl (blt_of E.X E.G E.f14) (af_cons (pf_v (pv 1)) (af_cons (pf_v (pv 2)) af_nil)))) (zs_cons (z_if (tf_cmp of_lt (pf_v (pv 2)) pf_int (by rfl)) (zs_cons (z_set (i := 3) sc.nd rfl (Or.inl rfl) (pf_neg (pf_v (pv 3)))) zs_nil) zs_nil) (zs_cons (z_fld E.tft_num (fun c _ _ => ct_len (by rfl) c) (pv 0) (pf_op of_div (pf_v (pv 1)) (pf_v (pv 3)))) (zs_cons (z_fld E.tft_den (fun c _ _ => ct_len (by rfl) c) (pv 0) (pf_op of_div (pf_v (pv 2)) (pf_v (pv 3)))) zs_nil)))))
/-! Operator.__init__ -/
def b_OperatorD_initD : En → SOut := (sCons (sSetN 2 (vw 1)) (sCons (whL (tAnd2 (tst (op2 iGt (vLen (vw 2)) (cst (.int 0)))) (tst (prp 1 m_Poly_is_zero (ixV 2 (iNeg (cst (.int 1))))))) (sCons (sExpr (popE 2)) sNil) 1000000000) (sCons (sFldS ft_coefs 0 (vTupO (vw 2))) sNil)))
def m_OperatorD_initD : En → Out D := mOf 3 [0] b_OperatorD_initD
theorem sc_OperatorD_initD : FnScope [(PySem.Str.ofString "self"), (PySem.Str.ofString "coefs"), (PySem.Str.ofString "kept")] [(PySem.Str.ofString "self"), (PySem.Str.ofString "coefs")] (defScope (mem 35 0)) := ⟨rfl, rfl, rfl, by decide +kernel, rfl, by decide +kernel, by decide +kernel⟩
theorem ok_OperatorD_initD {P : Program} {w : World} {K : PySem.W.Frag} {mg : Str → Option Value} {base h : Heap} (E : Bd K mg h) : Got P w K mg base (T K) d_OperatorD_initD 3 [(PySem.Str.ofString "self"), (PySem.Str.ofString "coefs")] m_OperatorD_initD := by
  obtain ⟨fd, F⟩ := E.c.def_ 20 (d := d_OperatorD_initD)
  obtain ⟨fd_Poly_is_zero, F_Poly_is_zero, G_Poly_is_zero⟩ := ok_Poly_is_zero (P := P) (w := w) (base := base) E
  have b_Poly_is_zero_1 : Dfl K (T K) fd_Poly_is_zero [(PySem.Str.ofString "self")] [] := dfl0 F_Poly_is_zero fun _ _ _ _ _ _ us hl => match us, hl with | [_], _ => rfl
  have sc := sc_OperatorD_initD
  have F' : FunD K (PySem.Str.ofString "__init__") (PySem.Str.ofString "Operator.__init__") (defArgs (mem 35 0)) (defBody (mem 35 0)) (defScope (mem 35 0)) (d_OperatorD_initD.dvs K) [] (adr K (.m (PySem.Str.ofString "Operator") (PySem.Str.ofString "__init__"))) fd := F
  have z := @fn_okE P w K mg base _ _ _ _ _ _ _ _ fd (T K) [(PySem.Str.ofString "self"), (PySem.Str.ofString "coefs"), (PySem.Str.ofString "kept")] [(PySem.Str.ofString "self"), (PySem.Str.ofString "coefs")] 2 [0] b_OperatorD_initD F' sc rfl
  have z2 : _ → FnOk P w K mg base (L2.CX P w) 3 (adr K (.m (PySem.Str.ofString "Operator") (PySem.Str.ofString "__init__"))) fd [(PySem.Str.ofString "self"), (PySem.Str.ofString "coefs")] (spM K (T K) 2 m_OperatorD_initD) := z
  refine ⟨fd, F, z2 ?_⟩
  intro cdv A outer s H Ex X eX hr tk hp
  subst eX
  exact (zs_cons (z_setN (i := 2) sc.nd rfl (Or.inl rfl) (pn_listV (vf_v (pv 1)) rfl (free_of E.X E.G E.f4) bt_list)) (zs_cons (z_while 1000000000 hp (tf_w (wf_and (tf_cmp of_gt (pf_lenV (vf_v (pv 2)) rfl (free_of E.X E.G E.f0) bt_len) pf_int (by rfl)) (wf_and1 (tf_val (pf_prp (prp_of (c := 1) rfl E.f5 E.f10) G_Poly_is_zero rfl (hr.mono (by decide)) b_Poly_is_zero_1 (pf_ixV (pv 2) (pf_neg pf_int))))))) (zs_cons (z_expr (pf_pop (pv 2))) zs_nil)) (zs_cons (z_fld E.tft_coefs (fun c _ _ => ct_len (by rfl) c) (pv 0) (pf_tupV (vf_v (pv 2)) rfl (free_of E.X E.G E.f16) bt_tuple)) zs_nil)))
/-! _law_row -/
def b__law_row : En → SOut := (sCons (sRet (cl1 (mkM 5 2 3 [] m_RowD_initD) (aC (cl1 (mkM 4 1 2 [] m_OperatorD_initD) (aC (fz (nLc (itA (ix (rd 0) (cst (.int 0)))) (gN 2) always (cl1 (mkM 1 2 3 [.int 1] m_PolyD_initD) (aC (rd 2) aN)) [2])) aN)) (aC (fz (nLc (itA (ix (rd 0) (cst (.int 1)))) (gN 1) always (cl1 (mkM 0 2 3 [.int 1] m_FractionD_initD) (aC (rd 1) aN)) [1])) aN)))) sNil)
def m__law_row : En → Out D := mOf 3 [] b__law_row
theorem sc__law_row : FnScope [(PySem.Str.ofString "_law_parts"), (PySem.Str.ofString "_law_number"), (PySem.Str.ofString "_law_coefs")] [(PySem.Str.ofString "_law_parts")] (defScope (top 43)) := ⟨rfl, rfl, rfl, by decide +kernel, rfl, by decide +kernel, by decide +kernel⟩
theorem ok__law_row {P : Program} {w : World} {K : PySem.W.Frag} {mg : Str → Option Value} {base h : Heap} (E : Bd K mg h) : Got P w K mg base (T K) d__law_row 12 [(PySem.Str.ofString "_law_parts")] m__law_row := by
  obtain ⟨fd, F⟩ := E.c.def_ 21 (d := d__law_row)
  obtain ⟨fd_RowD_initD, F_RowD_initD, G_RowD_initD⟩ := ok_RowD_initD (P := P) (w := w) (base := base) E
  obtain ⟨fd_FractionD_initD, F_FractionD_initD, G_FractionD_initD⟩ := ok_FractionD_initD (P := P) (w := w) (base := base) E
  obtain ⟨fd_OperatorD_initD, F_OperatorD_initD, G_OperatorD_initD⟩ := ok_OperatorD_initD (P := P) (w := w) (base := base) E
  obtain ⟨fd_PolyD_initD, F_PolyD_initD, G_PolyD_initD⟩ := ok_PolyD_initD (P := P) (w := w) (base := base) E
  have b_RowD_initD_3 : Dfl K (T K) fd_RowD_initD [(PySem.Str.ofString "self"), (PySem.Str.ofString "operator"), (PySem.Str.ofString "initial")] [] := dfl0 F_RowD_initD fun _ _ _ _ _ _ us hl => match us, hl with | [_, _, _], _ => rfl
  have b_FractionD_initD_2 : Dfl K (T K) fd_FractionD_initD [(PySem.Str.ofString "self"), (PySem.Str.ofString "num"), (PySem.Str.ofString "den")] [.int 1] := dfl1 F_FractionD_initD 2 0 (by intro h; cases h) rfl (fun _ => .cons (.int _) (.nil)) fun _ _ _ _ _ _ _ us its hl hi => match us, its, hl, hi with | [_, _], [_], _, _ => ⟨_, rfl, rfl⟩
  have b_OperatorD_initD_2 : Dfl K (T K) fd_OperatorD_initD [(PySem.Str.ofString "self"), (PySem.Str.ofString "coefs")] [] := dfl0 F_OperatorD_initD fun _ _ _ _ _ _ us hl => match us, hl with | [_, _], _ => rfl
  have b_PolyD_initD_2 : Dfl K (T K) fd_PolyD_initD [(PySem.Str.ofString "self"), (PySem.Str.ofString "coefs"), (PySem.Str.ofString "den")] [.int 1] := dfl1 F_PolyD_initD 2 0 (by intro h; cases h) rfl (fun _ => .cons (.int _) (.nil)) fun _ _ _ _ _ _ _ us its hl hi => match us, its, hl, hi with | [_, _], [_], _, _ => ⟨_, rfl, rfl⟩
  have sc := sc__law_row
  have F' : FunD K (PySem.Str.ofString "_law_row") (PySem.Str.ofString "_law_row") (defArgs (top 43)) (defBody (top 43)) (defScope (top 43)) (d__law_row.dvs K) [] (adr K (.g (PySem.Str.ofString "_law_row"))) fd := F
  have z := @fn_okE P w K mg base _ _ _ _ _ _ _ _ fd (T K) [(PySem.Str.ofString "_law_parts"), (PySem.Str.ofString "_law_number"), (PySem.Str.ofString "_law_coefs")] [(PySem.Str.ofString "_law_parts")] 11 [] b__law_row F' sc rfl
  have z2 : _ → FnOk P w K mg base (L2.CX P w) 12 (adr K (.g (PySem.Str.ofString "_law_row"))) fd [(PySem.Str.ofString "_law_parts")] (spM K (T K) 1 m__law_row) := z
  refine ⟨fd, F, z2 ?_⟩
  intro cdv A outer s H Ex X eX hr tk hp
  subst eX
  exact (zs_cons (z_ret (pf_call (kf_mk (mk_of (c := 5) rfl E.f40) G_RowD_initD (hr.mono (by decide)) b_RowD_initD_3 tk) rfl (glo_of E.X E.G E.f47) (keep_of E.f47) (af_cons (pf_call (kf_mk (mk_of (c := 4) rfl E.f45) G_OperatorD_initD (hr.mono (by decide)) b_OperatorD_initD_2 tk) rfl (glo_of E.X E.G E.f46) (keep_of E.f46) (af_cons (pf_n (pn_lc0 rfl sc.nd (if_any (pf_ix (pf_v (pv 0)) pf_int)) (blkOk_by (own := [((PySem.Str.ofString "_law_coefs"), 2)]) (by kernel_rfl)) (fun _ _ _ _ _ => (gf_name (i := 2) sc.nd rfl (Or.inl rfl))) (fun _ _ _ _ _ => (pf_call (kf_mk (mk_of (c := 1) rfl E.f22) G_PolyD_initD (hr.mono (by decide)) b_PolyD_initD_2 takes_no) rfl (glo_of E.X E.G E.f23) (keep_of E.f23) (af_cons (pf_v (pv 2)) af_nil))))) af_nil)) (af_cons (pf_n (pn_lc0 rfl sc.nd (if_any (pf_ix (pf_v (pv 0)) pf_int)) (blkOk_by (own := [((PySem.Str.ofString "_law_number"), 1)]) (by kernel_rfl)) (fun _ _ _ _ _ => (gf_name (i := 1) sc.nd rfl (Or.inl rfl))) (fun _ _ _ _ _ => (pf_call (kf_mk (mk_of (c := 0) rfl E.f43) G_FractionD_initD (hr.mono (by decide)) b_FractionD_initD_2 takes_no) rfl (glo_of E.X E.G E.f44) (keep_of E.f44) (af_cons (pf_v (pv 1)) af_nil))))) af_nil)))) zs_nil)
/-! _law_horner -/
def b__law_horner : En → SOut := (sCons (sSet 2 (cst (.int 0))) (sCons (sFor (itR1 (aC (vLen (vw 0)) aN)) (gN 3) (sCons (sSet 2 (op2 iAdd (op2 iMul (rd 2) (rd 1)) (ixV 0 (op2 iSub (op2 iSub (vLen (vw 0)) (cst (.int 1))) (rd 3))))) sNil)) (sCons (sRet (rd 2)) sNil)))
def m__law_horner : En → Out D := mOf 4 [] b__law_horner
theorem sc__law_horner : FnScope [(PySem.Str.ofString "_law_coefs"), (PySem.Str.ofString "_law_x"), (PySem.Str.ofString "_law_total"), (PySem.Str.ofString "_law_k")] [(PySem.Str.ofString "_law_coefs"), (PySem.Str.ofString "_law_x")] (defScope (top 44)) := ⟨rfl, rfl, rfl, by decide +kernel, rfl, by decide +kernel, by decide +kernel⟩
theorem ok__law_horner {P : Program} {w : World} {K : PySem.W.Frag} {mg : Str → Option Value} {base h : Heap} (E : Bd K mg h) : Got P w K mg base (T K) d__law_horner 1 [(PySem.Str.ofString "_law_coefs"), (PySem.Str.ofString "_law_x")] m__law_horner := by
  obtain ⟨fd, F⟩ := E.c.def_ 22 (d := d__law_horner)
  have sc := sc__law_horner
  have F' : FunD K (PySem.Str.ofString "_law_horner") (PySem.Str.ofString "_law_horner") (defArgs (top 44)) (defBody (top 44)) (defScope (top 44)) (d__law_horner.dvs K) [] (adr K (.g (PySem.Str.ofString "_law_horner"))) fd := F
  have z := @fn_okE P w K mg base _ _ _ _ _ _ _ _ fd (T K) [(PySem.Str.ofString "_law_coefs"), (PySem.Str.ofString "_law_x"), (PySem.Str.ofString "_law_total"), (PySem.Str.ofString "_law_k")] [(PySem.Str.ofString "_law_coefs"), (PySem.Str.ofString "_law_x")] 0 [] b__law_horner F' sc rfl
  have z2 : _ → FnOk P w K mg base (L2.CX P w) 1 (adr K (.g (PySem.Str.ofString "_law_horner"))) fd [(PySem.Str.ofString "_law_coefs"), (PySem.Str.ofString "_law_x")] (spM K (T K) 2 m__law_horner) := z
  refine ⟨fd, F, z2 ?_⟩
  intro cdv A outer s H Ex X eX hr tk hp
  subst eX
  exact (zs_cons (z_set (i := 2) sc.nd rfl (Or.inl rfl) pf_int) (zs_cons (z_for hp rfl (if_range1 rfl (free_of E.X E.G E.f1) (af_cons (pf_lenV (vf_v (pv 0)) rfl (free_of E.X E.G E.f0) bt_len) af_nil)) (gf_name (i := 3) sc.nd rfl (Or.inl rfl)) (zs_cons (z_set (i := 2) sc.nd rfl (Or.inl rfl) (pf_op of_add (pf_op of_mul (pf_v (pv 2)) (pf_v (pv 1))) (pf_ixV (pv 0) (pf_op of_sub (pf_op of_sub (pf_lenV (vf_v (pv 0)) rfl (free_of E.X E.G E.f0) bt_len) pf_int) (pf_v (pv 3)))))) zs_nil)) (zs_cons (z_ret (pf_v (pv 2))) zs_nil)))
/-! _law_divisor -/
def b__law_divisor : En → SOut := (sCons (sSet 0 (cl1 (fun ds => opt (k1 (fun i => .int (if i < 0 then -i else i)) ds)) (aC (rd 0) aN))) (sCons (sSet 1 (cl1 (fun ds => opt (k1 (fun i => .int (if i < 0 then -i else i)) ds)) (aC (rd 1) aN))) (sCons (whL (tst (op2 iGt (rd 1) (cst (.int 0)))) (sCons (sSet 2 (op2 iMod (cl1 (fun ds => opt (kInt ds)) (aC (rd 0) aN)) (rd 1))) (sCons (sSet 0 (rd 1)) (sCons (sSet 1 (rd 2)) sNil))) 1000000000) (sCons (sRet (rd 0)) sNil))))
def m__law_divisor : En → Out D := mOf 3 [] b__law_divisor
theorem sc__law_divisor : FnScope [(PySem.Str.ofString "_law_a"), (PySem.Str.ofString "_law_b"), (PySem.Str.ofString "_law_rest")] [(PySem.Str.ofString "_law_a"), (PySem.Str.ofString "_law_b")] (defScope (top 41)) := ⟨rfl, rfl, rfl, by decide +kernel, rfl, by decide +kernel, by decide +kernel⟩
theorem ok__law_divisor {P : Program} {w : World} {K : PySem.W.Frag} {mg : Str → Option Value} {base h : Heap} (E : Bd K mg h) : Got P w K mg base (T K) d__law_divisor 1 [(PySem.Str.ofString "_law_a"), (PySem.Str.ofString "_law_b")] m__law_divisor := by
  obtain ⟨fd, F⟩ := E.c.def_ 23 (d := d__law_divisor)
  have sc := sc__law_divisor
  have F' : FunD K (PySem.Str.ofString "_law_divisor") (PySem.Str.ofString "_law_divisor") (defArgs (top 41)) (defBody (top 41)) (defScope (top 41)) (d__law_divisor.dvs K) [] (adr K (.g (PySem.Str.ofString "_law_divisor"))) fd := F
  have z := @fn_okE P w K mg base _ _ _ _ _ _ _ _ fd (T K) [(PySem.Str.ofString "_law_a"), (PySem.Str.ofString "_law_b"), (PySem.Str.ofString "_law_rest")] [(PySem.Str.ofString "_law_a"), (PySem.Str.ofString "_law_b")] 0 [] b__law_divisor F' sc rfl
  have z2 : _ → FnOk P w K mg base (L2.CX P w) 1 (adr K (.g (PySem.Str.ofString "_law_divisor"))) fd [(PySem.Str.ofString "_law_a"), (PySem.Str.ofString "_law_b")] (spM K (T K) 2 m__law_divisor) := z
  refine ⟨fd, F, z2 ?_⟩
  intro cdv A outer s H Ex X eX hr tk hp
  subst eX
  exact (zs_cons (z_set (i := 0) sc.nd rfl (Or.inl rfl) (pf_callB cf_abs rfl (free_of E.X E.G E.f28) bt_abs (af_cons (pf_v (pv 0)) af_nil))) (zs_cons (z_set (i := 1) sc.nd rfl (Or.inl rfl) (pf_callB cf_abs rfl (free_of E.X E.G E.f28) bt_abs (af_cons (pf_v (pv 1)) af_nil))) (zs_cons (z_while 1000000000 hp (tf_cmp of_gt (pf_v (pv 1)) pf_int (by rfl)) (zs_cons (z_set (i := 2) sc.nd rfl (Or.inl rfl) (pf_op of_mod (pf_callTy cf_int rfl (free_of E.X E.G E.f50) bt_int (af_cons (pf_v (pv 0)) af_nil)) (pf_v (pv 1)))) (zs_cons (z_set (i := 0) sc.nd rfl (Or.inl rfl) (pf_v (pv 1))) (zs_cons (z_set (i := 1) sc.nd rfl (Or.inl rfl) (pf_v (pv 2))) zs_nil)))) (zs_cons (z_ret (pf_v (pv 0))) zs_nil))))
/-! _law_values -/
def b__law_values : En → SOut := (sCons (sSetN 2 (nList (ix (rd 0) (cst (.int 1))))) (sCons (sSetN 3 (nLcH 2 (gN 4) always (cst (.int 1)) [4])) (sCons (sSet 5 (op2 iSub (cl1 (fun ds => opt (kLen ds)) (aC (ix (rd 0) (cst (.int 0))) aN)) (cst (.int 1)))) (sCons (sFor (itR2 (aC (vLen (vw 2)) (aC (rd 1) aN))) (gN 6) (sCons (sSet 7 (op2 iSub (rd 6) (rd 5))) (sCons (sSet 8 (cst (.int 0))) (sCons (sSet 9 (cst (.int 1))) (sCons (sFor (itR1 (aC (rd 5) aN)) (gN 10) (sCons (sSet 8 (op2 iSub (op2 iMul (rd 8) (ixV 3 (op2 iAdd (rd 7) (rd 10)))) (op2 iMul (op2 iMul (cl1 (fnM 2 [] m__law_horner) (aC (ix (ix (rd 0) (cst (.int 0))) (rd 10)) (aC (rd 7) aN))) (ixV 2 (op2 iAdd (rd 7) (rd 10)))) (rd 9)))) (sCons (sSet 9 (op2 iMul (rd 9) (ixV 3 (op2 iAdd (rd 7) (rd 10))))) sNil))) (sCons (sSet 9 (op2 iMul (rd 9) (cl1 (fnM 2 [] m__law_horner) (aC (ix (ix (rd 0) (cst (.int 0))) (rd 5)) (aC (rd 7) aN))))) (sCons (sSet 11 (cl1 (fnM 2 [] m__law_divisor) (aC (rd 8) (aC (rd 9) aN)))) (sCons (sApp 2 (op2 iDiv (rd 8) (rd 11))) (sCons (sApp 3 (op2 iDiv (rd 9) (rd 11))) sNil))))))))) (sCons (sRet (fz (nLst (aC (rd 2) (aC (rd 3) aN))))) sNil)))))
def m__law_values : En → Out D := mOf 12 [] b__law_values
theorem sc__law_values : FnScope [(PySem.Str.ofString "_law_parts"), (PySem.Str.ofString "_law_count"), (PySem.Str.ofString "_law_tops"), (PySem.Str.ofString "_law_belows"), (PySem.Str.ofString "_law_number"), (PySem.Str.ofString "_law_order"), (PySem.Str.ofString "_law_index"), (PySem.Str.ofString "_law_n"), (PySem.Str.ofString "_law_top"), (PySem.Str.ofString "_law_below"), (PySem.Str.ofString "_law_j"), (PySem.Str.ofString "_law_shared")] [(PySem.Str.ofString "_law_parts"), (PySem.Str.ofString "_law_count")] (defScope (top 45)) := ⟨rfl, rfl, rfl, by decide +kernel, rfl, by decide +kernel, by decide +kernel⟩
theorem ok__law_values {P : Program} {w : World} {K : PySem.W.Frag} {mg : Str → Option Value} {base h : Heap} (E : Bd K mg h) : Got P w K mg base (T K) d__law_values 2 [(PySem.Str.ofString "_law_parts"), (PySem.Str.ofString "_law_count")] m__law_values := by
  obtain ⟨fd, F⟩ := E.c.def_ 24 (d := d__law_values)
  obtain ⟨fd__law_horner, F__law_horner, G__law_horner⟩ := ok__law_horner (P := P) (w := w) (base := base) E
  obtain ⟨fd__law_divisor, F__law_divisor, G__law_divisor⟩ := ok__law_divisor (P := P) (w := w) (base := base) E
  have b__law_horner_2 : Dfl K (T K) fd__law_horner [(PySem.Str.ofString "_law_coefs"), (PySem.Str.ofString "_law_x")] [] := dfl0 F__law_horner fun _ _ _ _ _ _ us hl => match us, hl with | [_, _], _ => rfl
  have b__law_divisor_2 : Dfl K (T K) fd__law_divisor [(PySem.Str.ofString "_law_a"), (PySem.Str.ofString "_law_b")] [] := dfl0 F__law_divisor fun _ _ _ _ _ _ us hl => match us, hl with | [_, _], _ => rfl
  have sc := sc__law_values
  have F' : FunD K (PySem.Str.ofString "_law_values") (PySem.Str.ofString "_law_values") (defArgs (top 45)) (defBody (top 45)) (defScope (top 45)) (d__law_values.dvs K) [] (adr K (.g (PySem.Str.ofString "_law_values"))) fd := F
  have z := @fn_okE P w K mg base _ _ _ _ _ _ _ _ fd (T K) [(PySem.Str.ofString "_law_parts"), (PySem.Str.ofString "_law_count"), (PySem.Str.ofString "_law_tops"), (PySem.Str.ofString "_law_belows"), (PySem.Str.ofString "_law_number"), (PySem.Str.ofString "_law_order"), (PySem.Str.ofString "_law_index"), (PySem.Str.ofString "_law_n"), (PySem.Str.ofString "_law_top"), (PySem.Str.ofString "_law_below"), (PySem.Str.ofString "_law_j"), (PySem.Str.ofString "_law_shared")] [(PySem.Str.ofString "_law_parts"), (PySem.Str.ofString "_law_count")] 1 [] b__law_values F' sc rfl
  have z2 : _ → FnOk P w K mg base (L2.CX P w) 2 (adr K (.g (PySem.Str.ofString "_law_values"))) fd [(PySem.Str.ofString "_law_parts"), (PySem.Str.ofString "_law_count")] (spM K (T K) 2 m__law_values) := z
  refine ⟨fd, F, z2 ?_⟩
  intro cdv A outer s H Ex X eX hr tk hp
  subst eX
  exact (zs_cons (z_setN (i := 2) sc.nd rfl (Or.inl rfl) (pn_list (pf_ix (pf_v (pv 0)) pf_int) rfl (free_of E.X E.G E.f4) bt_list)) (zs_cons (z_setLcH0 (n := 3) rfl sc.nd rfl rfl (sw_true rfl rfl rfl rfl) (pv 2) (blkOk_by (own := [((PySem.Str.ofString "_law_number"), 4)]) (by kernel_rfl)) (fun _ _ _ _ _ => (gf_name (i := 4) sc.nd rfl (Or.inl rfl))) (fun _ _ _ _ _ => pf_int)) (zs_cons (z_set (i := 5) sc.nd rfl (Or.inl rfl) (pf_op of_sub (pf_callB cf_len rfl (free_of E.X E.G E.f0) bt_len (af_cons (pf_ix (pf_v (pv 0)) pf_int) af_nil)) pf_int)) (zs_cons (z_for hp rfl (if_range2 rfl (free_of E.X E.G E.f1) (af_cons (pf_lenV (vf_v (pv 2)) rfl (free_of E.X E.G E.f0) bt_len) (af_cons (pf_v (pv 1)) af_nil))) (gf_name (i := 6) sc.nd rfl (Or.inl rfl)) (zs_cons (z_set (i := 7) sc.nd rfl (Or.inl rfl) (pf_op of_sub (pf_v (pv 6)) (pf_v (pv 5)))) (zs_cons (z_set (i := 8) sc.nd rfl (Or.inl rfl) pf_int) (zs_cons (z_set (i := 9) sc.nd rfl (Or.inl rfl) pf_int) (zs_cons (z_for hp rfl (if_range1 rfl (free_of E.X E.G E.f1) (af_cons (pf_v (pv 5)) af_nil)) (gf_name (i := 10) sc.nd rfl (Or.inl rfl)) (zs_cons (z_set (i := 8) sc.nd rfl (Or.inl rfl) (pf_op of_sub (pf_op of_mul (pf_v (pv 8)) (pf_ixV (pv 3) (pf_op of_add (pf_v (pv 7)) (pf_v (pv 10))))) (pf_op of_mul (pf_op of_mul (pf_call (kf_fn G__law_horner (hr.mono (by decide)) b__law_horner_2 tk) rfl (glo_of E.X E.G E.f49) (keep_of E.f49) (af_cons (pf_ix (pf_ix (pf_v (pv 0)) pf_int) (pf_v (pv 10))) (af_cons (pf_v (pv 7)) af_nil))) (pf_ixV (pv 2) (pf_op of_add (pf_v (pv 7)) (pf_v (pv 10))))) (pf_v (pv 9))))) (zs_cons (z_set (i := 9) sc.nd rfl (Or.inl rfl) (pf_op of_mul (pf_v (pv 9)) (pf_ixV (pv 3) (pf_op of_add (pf_v (pv 7)) (pf_v (pv 10)))))) zs_nil))) (zs_cons (z_set (i := 9) sc.nd rfl (Or.inl rfl) (pf_op of_mul (pf_v (pv 9)) (pf_call (kf_fn G__law_horner (hr.mono (by decide)) b__law_horner_2 tk) rfl (glo_of E.X E.G E.f49) (keep_of E.f49) (af_cons (pf_ix (pf_ix (pf_v (pv 0)) pf_int) (pf_v (pv 5))) (af_cons (pf_v (pv 7)) af_nil))))) (zs_cons (z_set (i := 11) sc.nd rfl (Or.inl rfl) (pf_call (kf_fn G__law_divisor (hr.mono (by decide)) b__law_divisor_2 tk) rfl (glo_of E.X E.G E.f51) (keep_of E.f51) (af_cons (pf_v (pv 8)) (af_cons (pf_v (pv 9)) af_nil)))) (zs_cons (z_app (pv 2) (pf_op of_div (pf_v (pv 8)) (pf_v (pv 11)))) (zs_cons (z_app (pv 3) (pf_op of_div (pf_v (pv 9)) (pf_v (pv 11)))) zs_nil))))))))) (zs_cons (z_ret (pf_n (pn_lst (af_cons (pf_v (pv 2)) (af_cons (pf_v (pv 3)) af_nil))))) zs_nil)))))
/-! Poly.at -/
def b_Poly_at : En → SOut := (sCons (sSet 2 (cst (.int 0))) (sCons (sFor (itRev (fld ft_coefs (rd 0))) (gN 3) (sCons (sSet 2 (op2 iAdd (op2 iMul (rd 2) (rd 1)) (rd 3))) sNil)) (sCons (sRet (cl1 (mkM 0 2 3 [] m_FractionD_initD) (aC (rd 2) (aC (fld ft_den (rd 0)) aN)))) sNil)))
def m_Poly_at : En → Out D := mOf 4 [] b_Poly_at
theorem sc_Poly_at : FnScope [(PySem.Str.ofString "self"), (PySem.Str.ofString "k"), (PySem.Str.ofString "total"), (PySem.Str.ofString "number")] [(PySem.Str.ofString "self"), (PySem.Str.ofString "k")] (defScope (mem 20 12)) := ⟨rfl, rfl, rfl, by decide +kernel, rfl, by decide +kernel, by decide +kernel⟩
theorem ok_Poly_at {P : Program} {w : World} {K : PySem.W.Frag} {mg : Str → Option Value} {base h : Heap} (E : Bd K mg h) : Got P w K mg base (T K) d_Poly_at 3 [(PySem.Str.ofString "self"), (PySem.Str.ofString "k")] m_Poly_at := by
  obtain ⟨fd, F⟩ := E.c.def_ 25 (d := d_Poly_at)
  obtain ⟨fd_FractionD_initD, F_FractionD_initD, G_FractionD_initD⟩ := ok_FractionD_initD (P := P) (w := w) (base := base) E
  have b_FractionD_initD_3 : Dfl K (T K) fd_FractionD_initD [(PySem.Str.ofString "self"), (PySem.Str.ofString "num"), (PySem.Str.ofString "den")] [] := dfl1 F_FractionD_initD 3 1 (by intro h; cases h) rfl (fun _ => .nil) fun _ _ _ _ _ _ _ us its hl hi => match us, its, hl, hi with | [_, _, _], [_], _, _ => ⟨_, rfl, rfl⟩
  have sc := sc_Poly_at
  have F' : FunD K (PySem.Str.ofString "at") (PySem.Str.ofString "Poly.at") (defArgs (mem 20 12)) (defBody (mem 20 12)) (defScope (mem 20 12)) (d_Poly_at.dvs K) [] (adr K (.m (PySem.Str.ofString "Poly") (PySem.Str.ofString "at"))) fd := F
  have z := @fn_okE P w K mg base _ _ _ _ _ _ _ _ fd (T K) [(PySem.Str.ofString "self"), (PySem.Str.ofString "k"), (PySem.Str.ofString "total"), (PySem.Str.ofString "number")] [(PySem.Str.ofString "self"), (PySem.Str.ofString "k")] 2 [] b_Poly_at F' sc rfl
  have z2 : _ → FnOk P w K mg base (L2.CX P w) 3 (adr K (.m (PySem.Str.ofString "Poly") (PySem.Str.ofString "at"))) fd [(PySem.Str.ofString "self"), (PySem.Str.ofString "k")] (spM K (T K) 2 m_Poly_at) := z
  refine ⟨fd, F, z2 ?_⟩
  intro cdv A outer s H Ex X eX hr tk hp
  subst eX
  exact (zs_cons (z_set (i := 2) sc.nd rfl (Or.inl rfl) pf_int) (zs_cons (z_for hp rfl (if_rev rfl (free_of E.X E.G E.f27) (pf_fld E.tft_coefs (pf_v (pv 0)))) (gf_name (i := 3) sc.nd rfl (Or.inl rfl)) (zs_cons (z_set (i := 2) sc.nd rfl (Or.inl rfl) (pf_op of_add (pf_op of_mul (pf_v (pv 2)) (pf_v (pv 1))) (pf_v (pv 3)))) zs_nil)) (zs_cons (z_ret (pf_call (kf_mk (mk_of (c := 0) rfl E.f43) G_FractionD_initD (hr.mono (by decide)) b_FractionD_initD_3 tk) rfl (glo_of E.X E.G E.f44) (keep_of E.f44) (af_cons (pf_v (pv 2)) (af_cons (pf_fld E.tft_den (pf_v (pv 0))) af_nil)))) zs_nil)))
/-! Fraction.__mul__ -/
def b_FractionD_mulD : En → SOut := (sCons (sRet (cl1 (mkM 0 2 3 [] m_FractionD_initD) (aC (op2 iMul (fld ft_num (rd 0)) (fld ft_num (rd 1))) (aC (op2 iMul (fld ft_den (rd 0)) (fld ft_den (rd 1))) aN)))) sNil)
def m_FractionD_mulD : En → Out D := mOf 2 [] b_FractionD_mulD
theorem sc_FractionD_mulD : FnScope [(PySem.Str.ofString "self"), (PySem.Str.ofString "other")] [(PySem.Str.ofString "self"), (PySem.Str.ofString "other")] (defScope (mem 9 6)) := ⟨rfl, rfl, rfl, by decide +kernel, rfl, by decide +kernel, by decide +kernel⟩
theorem ok_FractionD_mulD {P : Program} {w : World} {K : PySem.W.Frag} {mg : Str → Option Value} {base h : Heap} (E : Bd K mg h) : Got P w K mg base (T K) d_FractionD_mulD 3 [(PySem.Str.ofString "self"), (PySem.Str.ofString "other")] m_FractionD_mulD := by
  obtain ⟨fd, F⟩ := E.c.def_ 26 (d := d_FractionD_mulD)
  obtain ⟨fd_FractionD_initD, F_FractionD_initD, G_FractionD_initD⟩ := ok_FractionD_initD (P := P) (w := w) (base := base) E
  have b_FractionD_initD_3 : Dfl K (T K) fd_FractionD_initD [(PySem.Str.ofString "self"), (PySem.Str.ofString "num"), (PySem.Str.ofString "den")] [] := dfl1 F_FractionD_initD 3 1 (by intro h; cases h) rfl (fun _ => .nil) fun _ _ _ _ _ _ _ us its hl hi => match us, its, hl, hi with | [_, _, _], [_], _, _ => ⟨_, rfl, rfl⟩
  have sc := sc_FractionD_mulD
  have F' : FunD K (PySem.Str.ofString "__mul__") (PySem.Str.ofString "Fraction.__mul__") (defArgs (mem 9 6)) (defBody (mem 9 6)) (defScope (mem 9 6)) (d_FractionD_mulD.dvs K) [] (adr K (.m (PySem.Str.ofString "Fraction") (PySem.Str.ofString "__mul__"))) fd := F
  have z := @fn_okE P w K mg base _ _ _ _ _ _ _ _ fd (T K) [(PySem.Str.ofString "self"), (PySem.Str.ofString "other")] [(PySem.Str.ofString "self"), (PySem.Str.ofString "other")] 2 [] b_FractionD_mulD F' sc rfl
  have z2 : _ → FnOk P w K mg base (L2.CX P w) 3 (adr K (.m (PySem.Str.ofString "Fraction") (PySem.Str.ofString "__mul__"))) fd [(PySem.Str.ofString "self"), (PySem.Str.ofString "other")] (spM K (T K) 2 m_FractionD_mulD) := z
  refine ⟨fd, F, z2 ?_⟩
  intro cdv A outer s H Ex X eX hr tk hp
  subst eX
  exact (zs_cons (z_ret (pf_call (kf_mk (mk_of (c := 0) rfl E.f43) G_FractionD_initD (hr.mono (by decide)) b_FractionD_initD_3 tk) rfl (glo_of E.X E.G E.f44) (keep_of E.f44) (af_cons (pf_op of_mul (pf_fld E.tft_num (pf_v (pv 0))) (pf_fld E.tft_num (pf_v (pv 1)))) (af_cons (pf_op of_mul (pf_fld E.tft_den (pf_v (pv 0))) (pf_fld E.tft_den (pf_v (pv 1)))) af_nil)))) zs_nil)
/-! Fraction.__add__ -/
def b_FractionD_addD : En → SOut := (sCons (sRet (cl1 (mkM 0 2 3 [] m_FractionD_initD) (aC (op2 iAdd (op2 iMul (fld ft_num (rd 0)) (fld ft_den (rd 1))) (op2 iMul (fld ft_num (rd 1)) (fld ft_den (rd 0)))) (aC (op2 iMul (fld ft_den (rd 0)) (fld ft_den (rd 1))) aN)))) sNil)
def m_FractionD_addD : En → Out D := mOf 2 [] b_FractionD_addD
theorem sc_FractionD_addD : FnScope [(PySem.Str.ofString "self"), (PySem.Str.ofString "other")] [(PySem.Str.ofString "self"), (PySem.Str.ofString "other")] (defScope (mem 9 4)) := ⟨rfl, rfl, rfl, by decide +kernel, rfl, by decide +kernel, by decide +kernel⟩
theorem ok_FractionD_addD {P : Program} {w : World} {K : PySem.W.Frag} {mg : Str → Option Value} {base h : Heap} (E : Bd K mg h) : Got P w K mg base (T K) d_FractionD_addD 3 [(PySem.Str.ofString "self"), (PySem.Str.ofString "other")] m_FractionD_addD := by
  obtain ⟨fd, F⟩ := E.c.def_ 27 (d := d_FractionD_addD)
  obtain ⟨fd_FractionD_initD, F_FractionD_initD, G_FractionD_initD⟩ := ok_FractionD_initD (P := P) (w := w) (base := base) E
  have b_FractionD_initD_3 : Dfl K (T K) fd_FractionD_initD [(PySem.Str.ofString "self"), (PySem.Str.ofString "num"), (PySem.Str.ofString "den")] [] := dfl1 F_FractionD_initD 3 1 (by intro h; cases h) rfl (fun _ => .nil) fun _ _ _ _ _ _ _ us its hl hi => match us, its, hl, hi with | [_, _, _], [_], _, _ => ⟨_, rfl, rfl⟩
  have sc := sc_FractionD_addD
  have F' : FunD K (PySem.Str.ofString "__add__") (PySem.Str.ofString "Fraction.__add__") (defArgs (mem 9 4)) (defBody (mem 9 4)) (defScope (mem 9 4)) (d_FractionD_addD.dvs K) [] (adr K (.m (PySem.Str.ofString "Fraction") (PySem.Str.ofString "__add__"))) fd := F
  have z := @fn_okE P w K mg base _ _ _ _ _ _ _ _ fd (T K) [(PySem.Str.ofString "self"), (PySem.Str.ofString "other")] [(PySem.Str.ofString "self"), (PySem.Str.ofString "other")] 2 [] b_FractionD_addD F' sc rfl
  have z2 : _ → FnOk P w K mg base (L2.CX P w) 3 (adr K (.m (PySem.Str.ofString "Fraction") (PySem.Str.ofString "__add__"))) fd [(PySem.Str.ofString "self"), (PySem.Str.ofString "other")] (spM K (T K) 2 m_FractionD_addD) := z
  refine ⟨fd, F, z2 ?_⟩
  intro cdv A outer s H Ex X eX hr tk hp
  subst eX
  exact (zs_cons (z_ret (pf_call (kf_mk (mk_of (c := 0) rfl E.f43) G_FractionD_initD (hr.mono (by decide)) b_FractionD_initD_3 tk) rfl (glo_of E.X E.G E.f44) (keep_of E.f44) (af_cons (pf_op of_add (pf_op of_mul (pf_fld E.tft_num (pf_v (pv 0))) (pf_fld E.tft_den (pf_v (pv 1)))) (pf_op of_mul (pf_fld E.tft_num (pf_v (pv 1))) (pf_fld E.tft_den (pf_v (pv 0))))) (af_cons (pf_op of_mul (pf_fld E.tft_den (pf_v (pv 0))) (pf_fld E.tft_den (pf_v (pv 1)))) af_nil)))) zs_nil)
/-! Fraction.over -/
def b_Fraction_over : En → SOut := (sCons (sIf (tst (op2 sEq (fld ft_num (rd 1)) (cst (.int 0)))) (sCons sEr sNil) sNil) (sCons (sRet (cl1 (mkM 0 2 3 [] m_FractionD_initD) (aC (op2 iMul (fld ft_num (rd 0)) (fld ft_den (rd 1))) (aC (op2 iMul (fld ft_den (rd 0)) (fld ft_num (rd 1))) aN)))) sNil))
def m_Fraction_over : En → Out D := mOf 2 [] b_Fraction_over
theorem sc_Fraction_over : FnScope [(PySem.Str.ofString "self"), (PySem.Str.ofString "other")] [(PySem.Str.ofString "self"), (PySem.Str.ofString "other")] (defScope (mem 9 8)) := ⟨rfl, rfl, rfl, by decide +kernel, rfl, by decide +kernel, by decide +kernel⟩
theorem ok_Fraction_over {P : Program} {w : World} {K : PySem.W.Frag} {mg : Str → Option Value} {base h : Heap} (E : Bd K mg h) : Got P w K mg base (T K) d_Fraction_over 3 [(PySem.Str.ofString "self"), (PySem.Str.ofString "other")] m_Fraction_over := by
  obtain ⟨fd, F⟩ := E.c.def_ 28 (d := d_Fraction_over)
  obtain ⟨fd_FractionD_initD, F_FractionD_initD, G_FractionD_initD⟩ := ok_FractionD_initD (P := P) (w := w) (base := base) E
  have b_FractionD_initD_3 : Dfl K (T K) fd_FractionD_initD [(PySem.Str.ofString "self"), (PySem.Str.ofString "num"), (PySem.Str.ofString "den")] [] := dfl1 F_FractionD_initD 3 1 (by intro h; cases h) rfl (fun _ => .nil) fun _ _ _ _ _ _ _ us its hl hi => match us, its, hl, hi with | [_, _, _], [_], _, _ => ⟨_, rfl, rfl⟩
  have sc := sc_Fraction_over
  have F' : FunD K (PySem.Str.ofString "over") (PySem.Str.ofString "Fraction.over") (defArgs (mem 9 8)) (defBody (mem 9 8)) (defScope (mem 9 8)) (d_Fraction_over.dvs K) [] (adr K (.m (PySem.Str.ofString "Fraction") (PySem.Str.ofString "over"))) fd := F
  have z := @fn_okE P w K mg base _ _ _ _ _ _ _ _ fd (T K) [(PySem.Str.ofString "self"), (PySem.Str.ofString "other")] [(PySem.Str.ofString "self"), (PySem.Str.ofString "other")] 2 [] b_Fraction_over F' sc rfl
  have z2 : _ → FnOk P w K mg base (L2.CX P w) 3 (adr K (.m (PySem.Str.ofString "Fraction") (PySem.Str.ofString "over"))) fd [(PySem.Str.ofString "self"), (PySem.Str.ofString "other")] (spM K (T K) 2 m_Fraction_over) := z
  refine ⟨fd, F, z2 ?_⟩
  intro cdv A outer s H Ex X eX hr tk hp
  subst eX
  exact (zs_cons (z_if (tf_cmp of_eq (pf_fld E.tft_num (pf_v (pv 1))) pf_int (by rfl)) (zs_cons z_never zs_nil) zs_nil) (zs_cons (z_ret (pf_call (kf_mk (mk_of (c := 0) rfl E.f43) G_FractionD_initD (hr.mono (by decide)) b_FractionD_initD_3 tk) rfl (glo_of E.X E.G E.f44) (keep_of E.f44) (af_cons (pf_op of_mul (pf_fld E.tft_num (pf_v (pv 0))) (pf_fld E.tft_den (pf_v (pv 1)))) (af_cons (pf_op of_mul (pf_fld E.tft_den (pf_v (pv 0))) (pf_fld E.tft_num (pf_v (pv 1)))) af_nil)))) zs_nil))
/-! Fraction.__neg__ -/
def b_FractionD_negD : En → SOut := (sCons (sRet (cl1 (mkM 0 2 3 [] m_FractionD_initD) (aC (iNeg (fld ft_num (rd 0))) (aC (fld ft_den (rd 0)) aN)))) sNil)
def m_FractionD_negD : En → Out D := mOf 1 [] b_FractionD_negD
theorem sc_FractionD_negD : FnScope [(PySem.Str.ofString "self")] [(PySem.Str.ofString "self")] (defScope (mem 9 7)) := ⟨rfl, rfl, rfl, by decide +kernel, rfl, by decide +kernel, by decide +kernel⟩
theorem ok_FractionD_negD {P : Program} {w : World} {K : PySem.W.Frag} {mg : Str → Option Value} {base h : Heap} (E : Bd K mg h) : Got P w K mg base (T K) d_FractionD_negD 3 [(PySem.Str.ofString "self")] m_FractionD_negD := by
  obtain ⟨fd, F⟩ := E.c.def_ 29 (d := d_FractionD_negD)
  obtain ⟨fd_FractionD_initD, F_FractionD_initD, G_FractionD_initD⟩ := ok_FractionD_initD (P := P) (w := w) (base := base) E
  have b_FractionD_initD_3 : Dfl K (T K) fd_FractionD_initD [(PySem.Str.ofString "self"), (PySem.Str.ofString "num"), (PySem.Str.ofString "den")] [] := dfl1 F_FractionD_initD 3 1 (by intro h; cases h) rfl (fun _ => .nil) fun _ _ _ _ _ _ _ us its hl hi => match us, its, hl, hi with | [_, _, _], [_], _, _ => ⟨_, rfl, rfl⟩
  have sc := sc_FractionD_negD
  have F' : FunD K (PySem.Str.ofString "__neg__") (PySem.Str.ofString "Fraction.__neg__") (defArgs (mem 9 7)) (defBody (mem 9 7)) (defScope (mem 9 7)) (d_FractionD_negD.dvs K) [] (adr K (.m (PySem.Str.ofString "Fraction") (PySem.Str.ofString "__neg__"))) fd := F
  have z := @fn_okE P w K mg base _ _ _ _ _ _ _ _ fd (T K) [(PySem.Str.ofString "self")] [(PySem.Str.ofString "self")] 2 [] b_FractionD_negD F' sc rfl
  have z2 : _ → FnOk P w K mg base (L2.CX P w) 3 (adr K (.m (PySem.Str.ofString "Fraction") (PySem.Str.ofString "__neg__"))) fd [(PySem.Str.ofString "self")] (spM K (T K) 1 m_FractionD_negD) := z
  refine ⟨fd, F, z2 ?_⟩
  intro cdv A outer s H Ex X eX hr tk hp
  subst eX
  exact (zs_cons (z_ret (pf_call (kf_mk (mk_of (c := 0) rfl E.f43) G_FractionD_initD (hr.mono (by decide)) b_FractionD_initD_3 tk) rfl (glo_of E.X E.G E.f44) (keep_of E.f44) (af_cons (pf_neg (pf_fld E.tft_num (pf_v (pv 0)))) (af_cons (pf_fld E.tft_den (pf_v (pv 0))) af_nil)))) zs_nil)
/-! Row.prefix -/
def b_Row_prefix : En → SOut := (sCons (sSetN 2 (nList (sl3 (fld ft_initial (rd 0)) noP (isP (rd 1))))) (sCons (sSet 3 (prp 4 m_Operator_order (fld ft_operator (rd 0)))) (sCons (sFor (itR2 (aC (vLen (vw 2)) (aC (rd 1) aN))) (gN 4) (sCons (sSet 5 (op2 iSub (rd 4) (rd 3))) (sCons (sSet 6 (cl1 (mkM 0 2 3 [.int 1] m_FractionD_initD) (aC (cst (.int 0)) aN))) (sCons (sFor (itR1 (aC (rd 3) aN)) (gN 7) (sCons (sSet 6 (bin2 0 (fnM 2 [] m_FractionD_addD) (rd 6) (bin2 0 (fnM 2 [] m_FractionD_mulD) (mt 1 (fnM 2 [] m_Poly_at) (mt 4 (fnM 2 [] m_Operator_part) (fld ft_operator (rd 0)) (aC (rd 7) aN)) (aC (rd 5) aN)) (ixV 2 (op2 iAdd (rd 5) (rd 7)))))) sNil)) (sCons (sApp 2 (neg1 0 (fnM 1 [] m_FractionD_negD) (mt 0 (fnM 2 [] m_Fraction_over) (rd 6) (aC (mt 1 (fnM 2 [] m_Poly_at) (prp 4 m_Operator_lead (fld ft_operator (rd 0))) (aC (rd 5) aN)) aN)))) sNil))))) (sCons (sRet (rd 2)) sNil))))
def m_Row_prefix : En → Out D := mOf 8 [] b_Row_prefix
theorem sc_Row_prefix : FnScope [(PySem.Str.ofString "self"), (PySem.Str.ofString "count"), (PySem.Str.ofString "numbers"), (PySem.Str.ofString "order"), (PySem.Str.ofString "index"), (PySem.Str.ofString "n"), (PySem.Str.ofString "total"), (PySem.Str.ofString "j")] [(PySem.Str.ofString "self"), (PySem.Str.ofString "count")] (defScope (mem 38 3)) := ⟨rfl, rfl, rfl, by decide +kernel, rfl, by decide +kernel, by decide +kernel⟩
theorem ok_Row_prefix {P : Program} {w : World} {K : PySem.W.Frag} {mg : Str → Option Value} {base h : Heap} (E : Bd K mg h) : Got P w K mg base (T K) d_Row_prefix 7 [(PySem.Str.ofString "self"), (PySem.Str.ofString "count")] m_Row_prefix := by
  obtain ⟨fd, F⟩ := E.c.def_ 30 (d := d_Row_prefix)
  obtain ⟨fd_Operator_order, F_Operator_order, G_Operator_order⟩ := ok_Operator_order (P := P) (w := w) (base := base) E
  obtain ⟨fd_FractionD_initD, F_FractionD_initD, G_FractionD_initD⟩ := ok_FractionD_initD (P := P) (w := w) (base := base) E
  obtain ⟨fd_Operator_part, F_Operator_part, G_Operator_part⟩ := ok_Operator_part (P := P) (w := w) (base := base) E
  obtain ⟨fd_Poly_at, F_Poly_at, G_Poly_at⟩ := ok_Poly_at (P := P) (w := w) (base := base) E
  obtain ⟨fd_FractionD_mulD, F_FractionD_mulD, G_FractionD_mulD⟩ := ok_FractionD_mulD (P := P) (w := w) (base := base) E
  obtain ⟨fd_FractionD_addD, F_FractionD_addD, G_FractionD_addD⟩ := ok_FractionD_addD (P := P) (w := w) (base := base) E
  obtain ⟨fd_Fraction_over, F_Fraction_over, G_Fraction_over⟩ := ok_Fraction_over (P := P) (w := w) (base := base) E
  obtain ⟨fd_Operator_lead, F_Operator_lead, G_Operator_lead⟩ := ok_Operator_lead (P := P) (w := w) (base := base) E
  obtain ⟨fd_FractionD_negD, F_FractionD_negD, G_FractionD_negD⟩ := ok_FractionD_negD (P := P) (w := w) (base := base) E
  have b_Operator_order_1 : Dfl K (T K) fd_Operator_order [(PySem.Str.ofString "self")] [] := dfl0 F_Operator_order fun _ _ _ _ _ _ us hl => match us, hl with | [_], _ => rfl
  have b_FractionD_initD_2 : Dfl K (T K) fd_FractionD_initD [(PySem.Str.ofString "self"), (PySem.Str.ofString "num"), (PySem.Str.ofString "den")] [.int 1] := dfl1 F_FractionD_initD 2 0 (by intro h; cases h) rfl (fun _ => .cons (.int _) (.nil)) fun _ _ _ _ _ _ _ us its hl hi => match us, its, hl, hi with | [_, _], [_], _, _ => ⟨_, rfl, rfl⟩
  have b_Operator_part_2 : Dfl K (T K) fd_Operator_part [(PySem.Str.ofString "self"), (PySem.Str.ofString "index")] [] := dfl0 F_Operator_part fun _ _ _ _ _ _ us hl => match us, hl with | [_, _], _ => rfl
  have b_Poly_at_2 : Dfl K (T K) fd_Poly_at [(PySem.Str.ofString "self"), (PySem.Str.ofString "k")] [] := dfl0 F_Poly_at fun _ _ _ _ _ _ us hl => match us, hl with | [_, _], _ => rfl
  have b_FractionD_mulD_2 : Dfl K (T K) fd_FractionD_mulD [(PySem.Str.ofString "self"), (PySem.Str.ofString "other")] [] := dfl0 F_FractionD_mulD fun _ _ _ _ _ _ us hl => match us, hl with | [_, _], _ => rfl
  have b_FractionD_addD_2 : Dfl K (T K) fd_FractionD_addD [(PySem.Str.ofString "self"), (PySem.Str.ofString "other")] [] := dfl0 F_FractionD_addD fun _ _ _ _ _ _ us hl => match us, hl with | [_, _], _ => rfl
  have b_Fraction_over_2 : Dfl K (T K) fd_Fraction_over [(PySem.Str.ofString "self"), (PySem.Str.ofString "other")] [] := dfl0 F_Fraction_over fun _ _ _ _ _ _ us hl => match us, hl with | [_, _], _ => rfl
  have b_Operator_lead_1 : Dfl K (T K) fd_Operator_lead [(PySem.Str.ofString "self")] [] := dfl0 F_Operator_lead fun _ _ _ _ _ _ us hl => match us, hl with | [_], _ => rfl
  have b_FractionD_negD_1 : Dfl K (T K) fd_FractionD_negD [(PySem.Str.ofString "self")] [] := dfl0 F_FractionD_negD fun _ _ _ _ _ _ us hl => match us, hl with | [_], _ => rfl
  have sc := sc_Row_prefix
  have F' : FunD K (PySem.Str.ofString "prefix") (PySem.Str.ofString "Row.prefix") (defArgs (mem 38 3)) (defBody (mem 38 3)) (defScope (mem 38 3)) (d_Row_prefix.dvs K) [] (adr K (.m (PySem.Str.ofString "Row") (PySem.Str.ofString "prefix"))) fd := F
  have z := @fn_okE P w K mg base _ _ _ _ _ _ _ _ fd (T K) [(PySem.Str.ofString "self"), (PySem.Str.ofString "count"), (PySem.Str.ofString "numbers"), (PySem.Str.ofString "order"), (PySem.Str.ofString "index"), (PySem.Str.ofString "n"), (PySem.Str.ofString "total"), (PySem.Str.ofString "j")] [(PySem.Str.ofString "self"), (PySem.Str.ofString "count")] 6 [] b_Row_prefix F' sc rfl
  have z2 : _ → FnOk P w K mg base (L2.CX P w) 7 (adr K (.m (PySem.Str.ofString "Row") (PySem.Str.ofString "prefix"))) fd [(PySem.Str.ofString "self"), (PySem.Str.ofString "count")] (spM K (T K) 2 m_Row_prefix) := z
  refine ⟨fd, F, z2 ?_⟩
  intro cdv A outer s H Ex X eX hr tk hp
  subst eX
  exact (zs_cons (z_setN (i := 2) sc.nd rfl (Or.inl rfl) (pn_list (pf_sl (pf_fld E.tft_initial (pf_v (pv 0))) sf_none (sf_some (pf_v (pv 1)))) rfl (free_of E.X E.G E.f4) bt_list)) (zs_cons (z_set (i := 3) sc.nd rfl (Or.inl rfl) (pf_prp (prp_of (c := 4) rfl E.f7 E.f35) G_Operator_order rfl (hr.mono (by decide)) b_Operator_order_1 (pf_fld E.tft_operator (pf_v (pv 0))))) (zs_cons (z_for hp rfl (if_range2 rfl (free_of E.X E.G E.f1) (af_cons (pf_lenV (vf_v (pv 2)) rfl (free_of E.X E.G E.f0) bt_len) (af_cons (pf_v (pv 1)) af_nil))) (gf_name (i := 4) sc.nd rfl (Or.inl rfl)) (zs_cons (z_set (i := 5) sc.nd rfl (Or.inl rfl) (pf_op of_sub (pf_v (pv 4)) (pf_v (pv 3)))) (zs_cons (z_set (i := 6) sc.nd rfl (Or.inl rfl) (pf_call (kf_mk (mk_of (c := 0) rfl E.f43) G_FractionD_initD (hr.mono (by decide)) b_FractionD_initD_2 tk) rfl (glo_of E.X E.G E.f44) (keep_of E.f44) (af_cons pf_int af_nil))) (zs_cons (z_for hp rfl (if_range1 rfl (free_of E.X E.G E.f1) (af_cons (pf_v (pv 3)) af_nil)) (gf_name (i := 7) sc.nd rfl (Or.inl rfl)) (zs_cons (z_set (i := 6) sc.nd rfl (Or.inl rfl) (pf_bin2 (bin_of (c := 0) rfl E.f55) (kf_fn G_FractionD_addD (hr.mono (by decide)) b_FractionD_addD_2 tk) (pf_v (pv 6)) (pf_bin2 (bin_of (c := 0) rfl E.f54) (kf_fn G_FractionD_mulD (hr.mono (by decide)) b_FractionD_mulD_2 tk) (pf_mt (mt_of (c := 1) rfl E.f5 E.f53) (kf_fn G_Poly_at (hr.mono (by decide)) b_Poly_at_2 tk) (pf_mt (mt_of (c := 4) rfl E.f7 E.f32) (kf_fn G_Operator_part (hr.mono (by decide)) b_Operator_part_2 tk) (pf_fld E.tft_operator (pf_v (pv 0))) (af_cons (pf_v (pv 7)) af_nil)) (af_cons (pf_v (pv 5)) af_nil)) (pf_ixV (pv 2) (pf_op of_add (pf_v (pv 5)) (pf_v (pv 7))))))) zs_nil)) (zs_cons (z_app (pv 2) (pf_neg1 (neg_of (c := 0) rfl E.f57) (kf_fn G_FractionD_negD (hr.mono (by decide)) b_FractionD_negD_1 tk) (pf_mt (mt_of (c := 0) rfl E.f17 E.f56) (kf_fn G_Fraction_over (hr.mono (by decide)) b_Fraction_over_2 tk) (pf_v (pv 6)) (af_cons (pf_mt (mt_of (c := 1) rfl E.f5 E.f53) (kf_fn G_Poly_at (hr.mono (by decide)) b_Poly_at_2 tk) (pf_prp (prp_of (c := 4) rfl E.f7 E.f33) G_Operator_lead rfl (hr.mono (by decide)) b_Operator_lead_1 (pf_fld E.tft_operator (pf_v (pv 0)))) (af_cons (pf_v (pv 5)) af_nil)) af_nil)))) zs_nil))))) (zs_cons (z_ret (pf_v (pv 2))) zs_nil))))
/-! Fraction.__eq__ -/
def b_FractionD_eqD : En → SOut := (sCons (sRet (vAnd2 (isi1 (kIsC 0 [0, 1, 2, 3, 4, 5]) (rd 1)) (vAnd2 (op2 sEq (fld ft_num (rd 0)) (fld ft_num (rd 1))) (op2 sEq (fld ft_den (rd 0)) (fld ft_den (rd 1)))))) sNil)
def m_FractionD_eqD : En → Out D := mOf 2 [] b_FractionD_eqD
theorem refl_Fraction : Refl (qOwn 0 m_FractionD_eqD) := by
  intro d b h
  cases d <;> try (simp [qOwn] at h; done)
  rename_i c xs
  by_cases hc : c = 0
  · subst hc
    cases e0 : xs[0]? with
    | none => simp [qOwn, m_FractionD_eqD, mOf, b_FractionD_eqD, sCons, sRet, vAnd2, isi1, kIsC, rd, op2, fld, ft_num, ft_den, sEq, opt, Out.bind, Out.st, SOut.sq, e0] at h
    | some x =>
      cases s0 : seq x x with
      | none => simp [qOwn, m_FractionD_eqD, mOf, b_FractionD_eqD, sCons, sRet, vAnd2, isi1, kIsC, rd, op2, fld, ft_num, ft_den, sEq, opt, Out.bind, Out.st, SOut.sq, e0, s0] at h
      | some b0 =>
        have t0 := seq_refl x b0 s0
        subst t0
        cases e1 : xs[1]? with
        | none => simp [qOwn, m_FractionD_eqD, mOf, b_FractionD_eqD, sCons, sRet, vAnd2, isi1, kIsC, rd, op2, fld, ft_num, ft_den, sEq, opt, Out.bind, Out.st, SOut.sq, e0, s0, e1] at h
        | some y =>
          cases s1 : seq y y with
          | none => simp [qOwn, m_FractionD_eqD, mOf, b_FractionD_eqD, sCons, sRet, vAnd2, isi1, kIsC, rd, op2, fld, ft_num, ft_den, sEq, opt, Out.bind, Out.st, SOut.sq, e0, s0, e1, s1] at h
          | some b1 =>
            have t1 := seq_refl y b1 s1
            subst t1
            simp [qOwn, m_FractionD_eqD, mOf, b_FractionD_eqD, sCons, sRet, vAnd2, isi1, kIsC, rd, op2, fld, ft_num, ft_den, sEq, opt, Out.bind, Out.st, SOut.sq, e0, s0, e1, s1] at h
            exact h
  · simp [qOwn, hc] at h
theorem sc_FractionD_eqD : FnScope [(PySem.Str.ofString "self"), (PySem.Str.ofString "other")] [(PySem.Str.ofString "self"), (PySem.Str.ofString "other")] (defScope (mem 9 3)) := ⟨rfl, rfl, rfl, by decide +kernel, rfl, by decide +kernel, by decide +kernel⟩
theorem ok_FractionD_eqD {P : Program} {w : World} {K : PySem.W.Frag} {mg : Str → Option Value} {base h : Heap} (E : Bd K mg h) : Got P w K mg base (T K) d_FractionD_eqD 1 [(PySem.Str.ofString "self"), (PySem.Str.ofString "other")] m_FractionD_eqD := by
  obtain ⟨fd, F⟩ := E.c.def_ 31 (d := d_FractionD_eqD)
  have sc := sc_FractionD_eqD
  have F' : FunD K (PySem.Str.ofString "__eq__") (PySem.Str.ofString "Fraction.__eq__") (defArgs (mem 9 3)) (defBody (mem 9 3)) (defScope (mem 9 3)) (d_FractionD_eqD.dvs K) [] (adr K (.m (PySem.Str.ofString "Fraction") (PySem.Str.ofString "__eq__"))) fd := F
  have z := @fn_okE P w K mg base _ _ _ _ _ _ _ _ fd (T K) [(PySem.Str.ofString "self"), (PySem.Str.ofString "other")] [(PySem.Str.ofString "self"), (PySem.Str.ofString "other")] 0 [] b_FractionD_eqD F' sc rfl
  have z2 : _ → FnOk P w K mg base (L2.CX P w) 1 (adr K (.m (PySem.Str.ofString "Fraction") (PySem.Str.ofString "__eq__"))) fd [(PySem.Str.ofString "self"), (PySem.Str.ofString "other")] (spM K (T K) 2 m_FractionD_eqD) := z
  refine ⟨fd, F, z2 ?_⟩
  intro cdv A outer s H Ex X eX hr tk hp
  subst eX
  exact (zs_cons (z_ret (pf_and (pf_isC (isC_of (c := 0) (cs := [0, 1, 2, 3, 4, 5]) rfl (by decide +kernel) E.f60) E.insOk (pf_v (pv 1)) rfl (glo_of E.X E.G E.f44) rfl (free_of E.X E.G E.f61) bt_isinstance) (pf_and (pf_cmp of_eq (pf_fld E.tft_num (pf_v (pv 0))) (pf_fld E.tft_num (pf_v (pv 1))) (by rfl)) (pf_one (pf_cmp of_eq (pf_fld E.tft_den (pf_v (pv 0))) (pf_fld E.tft_den (pf_v (pv 1))) (by rfl)))))) zs_nil)
/-! accepts_rows -/
def b_accepts_rows : En → SOut := (sCons (sIf (tst (op2 sEq (ix (rd 2) (cst (.int 0))) (cst (.str (PySem.Str.ofString "equal"))))) (sCons sEr sNil) sNil) (sCons (sIf (tOr2 (tst (op2 sNe (ix (rd 2) (cst (.int 0))) (cst (.str (PySem.Str.ofString "different"))))) (tst (op2 iLt (ix (rd 2) (cst (.int 1))) (cst (.int 0))))) (sCons (sRet (cst (.bl false))) sNil) sNil) (sCons (sSet 3 (ix (rd 2) (cst (.int 1)))) (sCons (sSet 4 (mt 5 (fnM 2 [] m_Row_prefix) (rd 0) (aC (op2 iAdd (rd 3) (cst (.int 1))) aN))) (sCons (sSet 5 (mt 5 (fnM 2 [] m_Row_prefix) (rd 1) (aC (op2 iAdd (rd 3) (cst (.int 1))) aN))) (sCons (sRet (vAnd2 (op2 (qEq (qLst (qOwn 0 m_FractionD_eqD))) (fz (nSlV 4 noP (isP (rd 3)))) (fz (nSlV 5 noP (isP (rd 3))))) (op2 (qNe (qOwn 0 m_FractionD_eqD)) (ixV 4 (rd 3)) (ixV 5 (rd 3))))) sNil))))))
def m_accepts_rows : En → Out D := mOf 6 [] b_accepts_rows
theorem sc_accepts_rows : FnScope [(PySem.Str.ofString "first"), (PySem.Str.ofString "second"), (PySem.Str.ofString "certificate"), (PySem.Str.ofString "index"), (PySem.Str.ofString "ours"), (PySem.Str.ofString "theirs")] [(PySem.Str.ofString "first"), (PySem.Str.ofString "second"), (PySem.Str.ofString "certificate")] (defScope (top 33)) := ⟨rfl, rfl, rfl, by decide +kernel, rfl, by decide +kernel, by decide +kernel⟩
theorem ok_accepts_rows {P : Program} {w : World} {K : PySem.W.Frag} {mg : Str → Option Value} {base h : Heap} (E : Bd K mg h) : Got P w K mg base (T K) d_accepts_rows 8 [(PySem.Str.ofString "first"), (PySem.Str.ofString "second"), (PySem.Str.ofString "certificate")] m_accepts_rows := by
  obtain ⟨fd, F⟩ := E.c.def_ 32 (d := d_accepts_rows)
  obtain ⟨fd_Row_prefix, F_Row_prefix, G_Row_prefix⟩ := ok_Row_prefix (P := P) (w := w) (base := base) E
  obtain ⟨fd_FractionD_eqD, F_FractionD_eqD, G_FractionD_eqD⟩ := ok_FractionD_eqD (P := P) (w := w) (base := base) E
  have b_Row_prefix_2 : Dfl K (T K) fd_Row_prefix [(PySem.Str.ofString "self"), (PySem.Str.ofString "count")] [] := dfl0 F_Row_prefix fun _ _ _ _ _ _ us hl => match us, hl with | [_, _], _ => rfl
  have b_FractionD_eqD_2 : Dfl K (T K) fd_FractionD_eqD [(PySem.Str.ofString "self"), (PySem.Str.ofString "other")] [] := dfl0 F_FractionD_eqD fun _ _ _ _ _ _ us hl => match us, hl with | [_, _], _ => rfl
  have sc := sc_accepts_rows
  have F' : FunD K (PySem.Str.ofString "accepts_rows") (PySem.Str.ofString "accepts_rows") (defArgs (top 33)) (defBody (top 33)) (defScope (top 33)) (d_accepts_rows.dvs K) [] (adr K (.g (PySem.Str.ofString "accepts_rows"))) fd := F
  have z := @fn_okE P w K mg base _ _ _ _ _ _ _ _ fd (T K) [(PySem.Str.ofString "first"), (PySem.Str.ofString "second"), (PySem.Str.ofString "certificate"), (PySem.Str.ofString "index"), (PySem.Str.ofString "ours"), (PySem.Str.ofString "theirs")] [(PySem.Str.ofString "first"), (PySem.Str.ofString "second"), (PySem.Str.ofString "certificate")] 7 [] b_accepts_rows F' sc rfl
  have z2 : _ → FnOk P w K mg base (L2.CX P w) 8 (adr K (.g (PySem.Str.ofString "accepts_rows"))) fd [(PySem.Str.ofString "first"), (PySem.Str.ofString "second"), (PySem.Str.ofString "certificate")] (spM K (T K) 3 m_accepts_rows) := z
  refine ⟨fd, F, z2 ?_⟩
  intro cdv A outer s H Ex X eX hr tk hp
  subst eX
  exact (zs_cons (z_if (tf_cmp of_eq (pf_ix (pf_v (pv 2)) pf_int) pf_str (by rfl)) (zs_cons z_never zs_nil) zs_nil) (zs_cons (z_if (tf_w (wf_or (tf_cmp of_ne (pf_ix (pf_v (pv 2)) pf_int) pf_str (by rfl)) (wf_or1 (tf_cmp of_lt (pf_ix (pf_v (pv 2)) pf_int) pf_int (by rfl))))) (zs_cons (z_ret pf_bl) zs_nil) zs_nil) (zs_cons (z_set (i := 3) sc.nd rfl (Or.inl rfl) (pf_ix (pf_v (pv 2)) pf_int)) (zs_cons (z_set (i := 4) sc.nd rfl (Or.inl rfl) (pf_mt (mt_of (c := 5) rfl E.f37 E.f58) (kf_fn G_Row_prefix (hr.mono (by decide)) b_Row_prefix_2 tk) (pf_v (pv 0)) (af_cons (pf_op of_add (pf_v (pv 3)) pf_int) af_nil))) (zs_cons (z_set (i := 5) sc.nd rfl (Or.inl rfl) (pf_mt (mt_of (c := 5) rfl E.f37 E.f58) (kf_fn G_Row_prefix (hr.mono (by decide)) b_Row_prefix_2 tk) (pf_v (pv 1)) (af_cons (pf_op of_add (pf_v (pv 3)) pf_int) af_nil))) (zs_cons (z_ret (pf_and (pf_cmp (of_qeq (qe_lst (qb_own (eq_of (c := 0) rfl E.f62) G_FractionD_eqD rfl b_FractionD_eqD_2 refl_Fraction (apart_of E.f63))) (hr.mono (by decide))) (pf_n (pn_slV (pv 4) sf_none (sf_some (pf_v (pv 3))))) (pf_n (pn_slV (pv 5) sf_none (sf_some (pf_v (pv 3))))) (by rfl)) (pf_one (pf_cmp (of_qne (qe_ownN (eq_of (c := 0) rfl E.f62) G_FractionD_eqD rfl b_FractionD_eqD_2) (hr.mono (by decide))) (pf_ixV (pv 4) (pf_v (pv 3))) (pf_ixV (pv 5) (pf_v (pv 3))) (by rfl))))) zs_nil))))))
/-! Poly2.__init__ -/
def b_Poly2D_initD : En → SOut := (sCons (sSetN 2 (vw 1)) (sCons (whL (tAnd2 (tst (op2 iGt (vLen (vw 2)) (cst (.int 0)))) (tst (prp 1 m_Poly_is_zero (ixV 2 (iNeg (cst (.int 1))))))) (sCons (sExpr (popE 2)) sNil) 1000000000) (sCons (sFldS ft_rows 0 (vTupO (vw 2))) sNil)))
def m_Poly2D_initD : En → Out D := mOf 3 [0] b_Poly2D_initD
theorem sc_Poly2D_initD : FnScope [(PySem.Str.ofString "self"), (PySem.Str.ofString "rows"), (PySem.Str.ofString "kept")] [(PySem.Str.ofString "self"), (PySem.Str.ofString "rows")] (defScope (mem 22 0)) := ⟨rfl, rfl, rfl, by decide +kernel, rfl, by decide +kernel, by decide +kernel⟩
theorem ok_Poly2D_initD {P : Program} {w : World} {K : PySem.W.Frag} {mg : Str → Option Value} {base h : Heap} (E : Bd K mg h) : Got P w K mg base (T K) d_Poly2D_initD 3 [(PySem.Str.ofString "self"), (PySem.Str.ofString "rows")] m_Poly2D_initD := by
  obtain ⟨fd, F⟩ := E.c.def_ 33 (d := d_Poly2D_initD)
  obtain ⟨fd_Poly_is_zero, F_Poly_is_zero, G_Poly_is_zero⟩ := ok_Poly_is_zero (P := P) (w := w) (base := base) E
  have b_Poly_is_zero_1 : Dfl K (T K) fd_Poly_is_zero [(PySem.Str.ofString "self")] [] := dfl0 F_Poly_is_zero fun _ _ _ _ _ _ us hl => match us, hl with | [_], _ => rfl
  have sc := sc_Poly2D_initD
  have F' : FunD K (PySem.Str.ofString "__init__") (PySem.Str.ofString "Poly2.__init__") (defArgs (mem 22 0)) (defBody (mem 22 0)) (defScope (mem 22 0)) (d_Poly2D_initD.dvs K) [] (adr K (.m (PySem.Str.ofString "Poly2") (PySem.Str.ofString "__init__"))) fd := F
  have z := @fn_okE P w K mg base _ _ _ _ _ _ _ _ fd (T K) [(PySem.Str.ofString "self"), (PySem.Str.ofString "rows"), (PySem.Str.ofString "kept")] [(PySem.Str.ofString "self"), (PySem.Str.ofString "rows")] 2 [0] b_Poly2D_initD F' sc rfl
  have z2 : _ → FnOk P w K mg base (L2.CX P w) 3 (adr K (.m (PySem.Str.ofString "Poly2") (PySem.Str.ofString "__init__"))) fd [(PySem.Str.ofString "self"), (PySem.Str.ofString "rows")] (spM K (T K) 2 m_Poly2D_initD) := z
  refine ⟨fd, F, z2 ?_⟩
  intro cdv A outer s H Ex X eX hr tk hp
  subst eX
  exact (zs_cons (z_setN (i := 2) sc.nd rfl (Or.inl rfl) (pn_listV (vf_v (pv 1)) rfl (free_of E.X E.G E.f4) bt_list)) (zs_cons (z_while 1000000000 hp (tf_w (wf_and (tf_cmp of_gt (pf_lenV (vf_v (pv 2)) rfl (free_of E.X E.G E.f0) bt_len) pf_int (by rfl)) (wf_and1 (tf_val (pf_prp (prp_of (c := 1) rfl E.f5 E.f10) G_Poly_is_zero rfl (hr.mono (by decide)) b_Poly_is_zero_1 (pf_ixV (pv 2) (pf_neg pf_int))))))) (zs_cons (z_expr (pf_pop (pv 2))) zs_nil)) (zs_cons (z_fld E.tft_rows (fun c _ _ => ct_len (by rfl) c) (pv 0) (pf_tupV (vf_v (pv 2)) rfl (free_of E.X E.G E.f16) bt_tuple)) zs_nil)))
/-! primitive -/
def b_primitive : En → SOut := (sCons (sIf (tst (prp 1 m_Poly_is_zero (rd 0))) (sCons (sRet (rd 0)) sNil) sNil) (sCons (sRet (cl1 (mkM 1 2 3 [] m_PolyD_initD) (aC (fld ft_coefs (rd 0)) (aC (cl1 (fnM 1 [] m_content) (aC (fld ft_coefs (rd 0)) aN)) aN)))) sNil))
def m_primitive : En → Out D := mOf 1 [] b_primitive
theorem sc_primitive : FnScope [(PySem.Str.ofString "p")] [(PySem.Str.ofString "p")] (defScope (top 27)) := ⟨rfl, rfl, rfl, by decide +kernel, rfl, by decide +kernel, by decide +kernel⟩
theorem ok_primitive {P : Program} {w : World} {K : PySem.W.Frag} {mg : Str → Option Value} {base h : Heap} (E : Bd K mg h) : Got P w K mg base (T K) d_primitive 4 [(PySem.Str.ofString "p")] m_primitive := by
  obtain ⟨fd, F⟩ := E.c.def_ 34 (d := d_primitive)
  obtain ⟨fd_Poly_is_zero, F_Poly_is_zero, G_Poly_is_zero⟩ := ok_Poly_is_zero (P := P) (w := w) (base := base) E
  obtain ⟨fd_PolyD_initD, F_PolyD_initD, G_PolyD_initD⟩ := ok_PolyD_initD (P := P) (w := w) (base := base) E
  obtain ⟨fd_content, F_content, G_content⟩ := ok_content (P := P) (w := w) (base := base) E
  have b_Poly_is_zero_1 : Dfl K (T K) fd_Poly_is_zero [(PySem.Str.ofString "self")] [] := dfl0 F_Poly_is_zero fun _ _ _ _ _ _ us hl => match us, hl with | [_], _ => rfl
  have b_PolyD_initD_3 : Dfl K (T K) fd_PolyD_initD [(PySem.Str.ofString "self"), (PySem.Str.ofString "coefs"), (PySem.Str.ofString "den")] [] := dfl1 F_PolyD_initD 3 1 (by intro h; cases h) rfl (fun _ => .nil) fun _ _ _ _ _ _ _ us its hl hi => match us, its, hl, hi with | [_, _, _], [_], _, _ => ⟨_, rfl, rfl⟩
  have b_content_1 : Dfl K (T K) fd_content [(PySem.Str.ofString "numbers")] [] := dfl0 F_content fun _ _ _ _ _ _ us hl => match us, hl with | [_], _ => rfl
  have sc := sc_primitive
  have F' : FunD K (PySem.Str.ofString "primitive") (PySem.Str.ofString "primitive") (defArgs (top 27)) (defBody (top 27)) (defScope (top 27)) (d_primitive.dvs K) [] (adr K (.g (PySem.Str.ofString "primitive"))) fd := F
  have z := @fn_okE P w K mg base _ _ _ _ _ _ _ _ fd (T K) [(PySem.Str.ofString "p")] [(PySem.Str.ofString "p")] 3 [] b_primitive F' sc rfl
  have z2 : _ → FnOk P w K mg base (L2.CX P w) 4 (adr K (.g (PySem.Str.ofString "primitive"))) fd [(PySem.Str.ofString "p")] (spM K (T K) 1 m_primitive) := z
  refine ⟨fd, F, z2 ?_⟩
  intro cdv A outer s H Ex X eX hr tk hp
  subst eX
  exact (zs_cons (z_if (tf_val (pf_prp (prp_of (c := 1) rfl E.f5 E.f10) G_Poly_is_zero rfl (hr.mono (by decide)) b_Poly_is_zero_1 (pf_v (pv 0)))) (zs_cons (z_ret (pf_v (pv 0))) zs_nil) zs_nil) (zs_cons (z_ret (pf_call (kf_mk (mk_of (c := 1) rfl E.f22) G_PolyD_initD (hr.mono (by decide)) b_PolyD_initD_3 tk) rfl (glo_of E.X E.G E.f23) (keep_of E.f23) (af_cons (pf_fld E.tft_coefs (pf_v (pv 0))) (af_cons (pf_call (kf_fn G_content (hr.mono (by decide)) b_content_1 tk) rfl (glo_of E.X E.G E.f15) (keep_of E.f15) (af_cons (pf_fld E.tft_coefs (pf_v (pv 0))) af_nil)) af_nil)))) zs_nil))
/-! divide -/
def b_divide : En → SOut := (sCons (sIf (tst (prp 1 m_Poly_is_zero (rd 1))) (sCons sEr sNil) sNil) (sCons (sSet 2 (cl1 (fun ds => opt (kLen ds)) (aC (fld ft_coefs (rd 1)) aN))) (sCons (sSet 3 (ix (fld ft_coefs (rd 1)) (op2 iSub (rd 2) (cst (.int 1))))) (sCons (sSetN 4 (nList (fld ft_coefs (rd 0)))) (sCons (sSetN 5 (nLc (itR1 (aC (op2 iAdd (op2 iSub (vLen (vw 4)) (rd 2)) (cst (.int 1))) aN)) (gN 6) always (cst (.int 0)) [6])) (sCons (sSet 7 (cst (.int 1))) (sCons (sFor (itR3 (aC (op2 iSub (vLen (vw 5)) (cst (.int 1))) (aC (iNeg (cst (.int 1))) (aC (iNeg (cst (.int 1))) aN)))) (gN 8) (sCons (sSet 9 (ixV 4 (op2 iSub (op2 iAdd (rd 8) (rd 2)) (cst (.int 1))))) (sCons (sSetN 4 (nLcH 4 (gN 10) always (op2 iMul (rd 3) (rd 10)) [10])) (sCons (sSetN 5 (nLcH 5 (gN 10) always (op2 iMul (rd 3) (rd 10)) [10])) (sCons (sFor (itR1 (aC (rd 2) aN)) (gN 11) (sCons (sSetIx 4 (op2 iSub (ixV 4 (op2 iAdd (rd 8) (rd 11))) (op2 iMul (rd 9) (ix (fld ft_coefs (rd 1)) (rd 11)))) (op2 iAdd (rd 8) (rd 11))) sNil)) (sCons (sSetIx 5 (op2 iAdd (ixV 5 (rd 8)) (rd 9)) (rd 8)) (sCons (sSet 7 (op2 iMul (rd 7) (rd 3))) sNil))))))) (sCons (sSet 12 (op2 iMul (rd 7) (fld ft_den (rd 0)))) (sCons (sRet (vTup (aC (cl1 (mkM 1 2 3 [] m_PolyD_initD) (aC (fz (nLcH 5 (gN 10) always (op2 iMul (rd 10) (fld ft_den (rd 1))) [10])) (aC (rd 12) aN))) (aC (cl1 (mkM 1 2 3 [] m_PolyD_initD) (aC (rd 4) (aC (rd 12) aN))) aN)))) sNil)))))))))
def m_divide : En → Out D := mOf 13 [] b_divide
theorem sc_divide : FnScope [(PySem.Str.ofString "p"), (PySem.Str.ofString "q"), (PySem.Str.ofString "size"), (PySem.Str.ofString "lead"), (PySem.Str.ofString "rest"), (PySem.Str.ofString "quotient"), (PySem.Str.ofString "_"), (PySem.Str.ofString "scale"), (PySem.Str.ofString "place"), (PySem.Str.ofString "top"), (PySem.Str.ofString "number"), (PySem.Str.ofString "i"), (PySem.Str.ofString "den")] [(PySem.Str.ofString "p"), (PySem.Str.ofString "q")] (defScope (top 24)) := ⟨rfl, rfl, rfl, by decide +kernel, rfl, by decide +kernel, by decide +kernel⟩
theorem ok_divide {P : Program} {w : World} {K : PySem.W.Frag} {mg : Str → Option Value} {base h : Heap} (E : Bd K mg h) : Got P w K mg base (T K) d_divide 4 [(PySem.Str.ofString "p"), (PySem.Str.ofString "q")] m_divide := by
  obtain ⟨fd, F⟩ := E.c.def_ 35 (d := d_divide)
  obtain ⟨fd_Poly_is_zero, F_Poly_is_zero, G_Poly_is_zero⟩ := ok_Poly_is_zero (P := P) (w := w) (base := base) E
  obtain ⟨fd_PolyD_initD, F_PolyD_initD, G_PolyD_initD⟩ := ok_PolyD_initD (P := P) (w := w) (base := base) E
  have b_Poly_is_zero_1 : Dfl K (T K) fd_Poly_is_zero [(PySem.Str.ofString "self")] [] := dfl0 F_Poly_is_zero fun _ _ _ _ _ _ us hl => match us, hl with | [_], _ => rfl
  have b_PolyD_initD_3 : Dfl K (T K) fd_PolyD_initD [(PySem.Str.ofString "self"), (PySem.Str.ofString "coefs"), (PySem.Str.ofString "den")] [] := dfl1 F_PolyD_initD 3 1 (by intro h; cases h) rfl (fun _ => .nil) fun _ _ _ _ _ _ _ us its hl hi => match us, its, hl, hi with | [_, _, _], [_], _, _ => ⟨_, rfl, rfl⟩
  have sc := sc_divide
  have F' : FunD K (PySem.Str.ofString "divide") (PySem.Str.ofString "divide") (defArgs (top 24)) (defBody (top 24)) (defScope (top 24)) (d_divide.dvs K) [] (adr K (.g (PySem.Str.ofString "divide"))) fd := F
  have z := @fn_okE P w K mg base _ _ _ _ _ _ _ _ fd (T K) [(PySem.Str.ofString "p"), (PySem.Str.ofString "q"), (PySem.Str.ofString "size"), (PySem.Str.ofString "lead"), (PySem.Str.ofString "rest"), (PySem.Str.ofString "quotient"), (PySem.Str.ofString "_"), (PySem.Str.ofString "scale"), (PySem.Str.ofString "place"), (PySem.Str.ofString "top"), (PySem.Str.ofString "number"), (PySem.Str.ofString "i"), (PySem.Str.ofString "den")] [(PySem.Str.ofString "p"), (PySem.Str.ofString "q")] 3 [] b_divide F' sc rfl
  have z2 : _ → FnOk P w K mg base (L2.CX P w) 4 (adr K (.g (PySem.Str.ofString "divide"))) fd [(PySem.Str.ofString "p"), (PySem.Str.ofString "q")] (spM K (T K) 2 m_divide) := z
  refine ⟨fd, F, z2 ?_⟩
  intro cdv A outer s H Ex X eX hr tk hp
  subst eX
  exact (zs_cons (z_if (tf_val (pf_prp (prp_of (c := 1) rfl E.f5 E.f10) G_Poly_is_zero rfl (hr.mono (by decide)) b_Poly_is_zero_1 (pf_v (pv 1)))) (zs_cons z_never zs_nil) zs_nil) (zs_cons (z_set (i := 2) sc.nd rfl (Or.inl rfl) (pf_callB cf_len rfl (free_of E.X E.G E.f0) bt_len (af_cons (pf_fld E.tft_coefs (pf_v (pv 1))) af_nil))) (zs_cons (z_set (i := 3) sc.nd rfl (Or.inr rfl) (pf_ix (pf_fld E.tft_coefs (pf_v (pv 1))) (pf_op of_sub (pf_v (pv 2)) pf_int))) (zs_cons (z_setN (i := 4) sc.nd rfl (Or.inl rfl) (pn_list (pf_fld E.tft_coefs (pf_v (pv 0))) rfl (free_of E.X E.G E.f4) bt_list)) (zs_cons (z_setLc0 (i := 5) rfl sc.nd rfl rfl (sw_true rfl rfl rfl rfl) (if_range1 rfl (free_of E.X E.G E.f1) (af_cons (pf_op of_add (pf_op of_sub (pf_lenV (vf_v (pv 4)) rfl (free_of E.X E.G E.f0) bt_len) (pf_v (pv 2))) pf_int) af_nil)) (blkOk_by (own := [((PySem.Str.ofString "_"), 6)]) (by kernel_rfl)) (fun _ _ _ _ _ => (gf_name (i := 6) sc.nd rfl (Or.inl rfl))) (fun _ _ _ _ _ => pf_int)) (zs_cons (z_set (i := 7) sc.nd rfl (Or.inl rfl) pf_int) (zs_cons (z_for hp rfl (if_range3 rfl (free_of E.X E.G E.f1) (af_cons (pf_op of_sub (pf_lenV (vf_v (pv 5)) rfl (free_of E.X E.G E.f0) bt_len) pf_int) (af_cons (pf_neg pf_int) (af_cons (pf_neg pf_int) af_nil)))) (gf_name (i := 8) sc.nd rfl (Or.inl rfl)) (zs_cons (z_set (i := 9) sc.nd rfl (Or.inl rfl) (pf_ixV (pv 4) (pf_op of_sub (pf_op of_add (pf_v (pv 8)) (pf_v (pv 2))) pf_int))) (zs_cons (z_setLcH0 (n := 4) rfl sc.nd rfl rfl (sw_true rfl rfl rfl rfl) (pv 4) (blkOk_by (own := [((PySem.Str.ofString "number"), 10)]) (by kernel_rfl)) (fun _ _ _ _ _ => (gf_name (i := 10) sc.nd rfl (Or.inl rfl))) (fun _ _ _ _ _ => (pf_op of_mul (pf_v (pv 3)) (pf_v (pv 10))))) (zs_cons (z_setLcH0 (n := 5) rfl sc.nd rfl rfl (sw_true rfl rfl rfl rfl) (pv 5) (blkOk_by (own := [((PySem.Str.ofString "number"), 10)]) (by kernel_rfl)) (fun _ _ _ _ _ => (gf_name (i := 10) sc.nd rfl (Or.inl rfl))) (fun _ _ _ _ _ => (pf_op of_mul (pf_v (pv 3)) (pf_v (pv 10))))) (zs_cons (z_for hp rfl (if_range1 rfl (free_of E.X E.G E.f1) (af_cons (pf_v (pv 2)) af_nil)) (gf_name (i := 11) sc.nd rfl (Or.inl rfl)) (zs_cons (z_setIx (pv 4) (pf_op of_add (pf_v (pv 8)) (pf_v (pv 11))) (pf_op of_sub (pf_ixV (pv 4) (pf_op of_add (pf_v (pv 8)) (pf_v (pv 11)))) (pf_op of_mul (pf_v (pv 9)) (pf_ix (pf_fld E.tft_coefs (pf_v (pv 1))) (pf_v (pv 11)))))) zs_nil)) (zs_cons (z_setIx (pv 5) (pf_v (pv 8)) (pf_op of_add (pf_ixV (pv 5) (pf_v (pv 8))) (pf_v (pv 9)))) (zs_cons (z_set (i := 7) sc.nd rfl (Or.inl rfl) (pf_op of_mul (pf_v (pv 7)) (pf_v (pv 3)))) zs_nil))))))) (zs_cons (z_set (i := 12) sc.nd rfl (Or.inl rfl) (pf_op of_mul (pf_v (pv 7)) (pf_fld E.tft_den (pf_v (pv 0))))) (zs_cons (z_ret (pf_tup (af_cons (pf_call (kf_mk (mk_of (c := 1) rfl E.f22) G_PolyD_initD (hr.mono (by decide)) b_PolyD_initD_3 tk) rfl (glo_of E.X E.G E.f23) (keep_of E.f23) (af_cons (pf_n (pn_lcH0 rfl sc.nd (pv 5) (blkOk_by (own := [((PySem.Str.ofString "number"), 10)]) (by kernel_rfl)) (fun _ _ _ _ _ => (gf_name (i := 10) sc.nd rfl (Or.inl rfl))) (fun _ _ _ _ _ => (pf_op of_mul (pf_v (pv 10)) (pf_fld E.tft_den (pf_v (pv 1))))))) (af_cons (pf_v (pv 12)) af_nil))) (af_cons (pf_call (kf_mk (mk_of (c := 1) rfl E.f22) G_PolyD_initD (hr.mono (by decide)) b_PolyD_initD_3 tk) rfl (glo_of E.X E.G E.f23) (keep_of E.f23) (af_cons (pf_v (pv 4)) (af_cons (pf_v (pv 12)) af_nil))) af_nil)))) zs_nil)))))))))
/-! Poly.scaled -/
def b_Poly_scaled : En → SOut := (sCons (sRet (cl1 (mkM 1 2 3 [] m_PolyD_initD) (aC (fz (nLc (itA (fld ft_coefs (rd 0))) (gN 2) always (op2 iMul (rd 2) (fld ft_num (rd 1))) [2])) (aC (op2 iMul (fld ft_den (rd 0)) (fld ft_den (rd 1))) aN)))) sNil)
def m_Poly_scaled : En → Out D := mOf 3 [] b_Poly_scaled
theorem sc_Poly_scaled : FnScope [(PySem.Str.ofString "self"), (PySem.Str.ofString "factor"), (PySem.Str.ofString "number")] [(PySem.Str.ofString "self"), (PySem.Str.ofString "factor")] (defScope (mem 20 14)) := ⟨rfl, rfl, rfl, by decide +kernel, rfl, by decide +kernel, by decide +kernel⟩
theorem ok_Poly_scaled {P : Program} {w : World} {K : PySem.W.Frag} {mg : Str → Option Value} {base h : Heap} (E : Bd K mg h) : Got P w K mg base (T K) d_Poly_scaled 4 [(PySem.Str.ofString "self"), (PySem.Str.ofString "factor")] m_Poly_scaled := by
  obtain ⟨fd, F⟩ := E.c.def_ 36 (d := d_Poly_scaled)
  obtain ⟨fd_PolyD_initD, F_PolyD_initD, G_PolyD_initD⟩ := ok_PolyD_initD (P := P) (w := w) (base := base) E
  have b_PolyD_initD_3 : Dfl K (T K) fd_PolyD_initD [(PySem.Str.ofString "self"), (PySem.Str.ofString "coefs"), (PySem.Str.ofString "den")] [] := dfl1 F_PolyD_initD 3 1 (by intro h; cases h) rfl (fun _ => .nil) fun _ _ _ _ _ _ _ us its hl hi => match us, its, hl, hi with | [_, _, _], [_], _, _ => ⟨_, rfl, rfl⟩
  have sc := sc_Poly_scaled
  have F' : FunD K (PySem.Str.ofString "scaled") (PySem.Str.ofString "Poly.scaled") (defArgs (mem 20 14)) (defBody (mem 20 14)) (defScope (mem 20 14)) (d_Poly_scaled.dvs K) [] (adr K (.m (PySem.Str.ofString "Poly") (PySem.Str.ofString "scaled"))) fd := F
  have z := @fn_okE P w K mg base _ _ _ _ _ _ _ _ fd (T K) [(PySem.Str.ofString "self"), (PySem.Str.ofString "factor"), (PySem.Str.ofString "number")] [(PySem.Str.ofString "self"), (PySem.Str.ofString "factor")] 3 [] b_Poly_scaled F' sc rfl
  have z2 : _ → FnOk P w K mg base (L2.CX P w) 4 (adr K (.m (PySem.Str.ofString "Poly") (PySem.Str.ofString "scaled"))) fd [(PySem.Str.ofString "self"), (PySem.Str.ofString "factor")] (spM K (T K) 2 m_Poly_scaled) := z
  refine ⟨fd, F, z2 ?_⟩
  intro cdv A outer s H Ex X eX hr tk hp
  subst eX
  exact (zs_cons (z_ret (pf_call (kf_mk (mk_of (c := 1) rfl E.f22) G_PolyD_initD (hr.mono (by decide)) b_PolyD_initD_3 tk) rfl (glo_of E.X E.G E.f23) (keep_of E.f23) (af_cons (pf_n (pn_lc0 rfl sc.nd (if_any (pf_fld E.tft_coefs (pf_v (pv 0)))) (blkOk_by (own := [((PySem.Str.ofString "number"), 2)]) (by kernel_rfl)) (fun _ _ _ _ _ => (gf_name (i := 2) sc.nd rfl (Or.inl rfl))) (fun _ _ _ _ _ => (pf_op of_mul (pf_v (pv 2)) (pf_fld E.tft_num (pf_v (pv 1))))))) (af_cons (pf_op of_mul (pf_fld E.tft_den (pf_v (pv 0))) (pf_fld E.tft_den (pf_v (pv 1)))) af_nil)))) zs_nil)
/-! Poly.lead -/
def b_Poly_lead : En → SOut := (sCons (sIf (tst (op2 sEq (cl1 (fun ds => opt (kLen ds)) (aC (fld ft_coefs (rd 0)) aN)) (cst (.int 0)))) (sCons (sRet (cl1 (mkM 0 2 3 [.int 1] m_FractionD_initD) (aC (cst (.int 0)) aN))) sNil) sNil) (sCons (sRet (cl1 (mkM 0 2 3 [] m_FractionD_initD) (aC (ix (fld ft_coefs (rd 0)) (iNeg (cst (.int 1)))) (aC (fld ft_den (rd 0)) aN)))) sNil))
def m_Poly_lead : En → Out D := mOf 1 [] b_Poly_lead
theorem sc_Poly_lead : FnScope [(PySem.Str.ofString "self")] [(PySem.Str.ofString "self")] (defScope (mem 20 5)) := ⟨rfl, rfl, rfl, by decide +kernel, rfl, by decide +kernel, by decide +kernel⟩
theorem ok_Poly_lead {P : Program} {w : World} {K : PySem.W.Frag} {mg : Str → Option Value} {base h : Heap} (E : Bd K mg h) : Got P w K mg base (T K) d_Poly_lead 3 [(PySem.Str.ofString "self")] m_Poly_lead := by
  obtain ⟨fd, F⟩ := E.c.def_ 37 (d := d_Poly_lead)
  obtain ⟨fd_FractionD_initD, F_FractionD_initD, G_FractionD_initD⟩ := ok_FractionD_initD (P := P) (w := w) (base := base) E
  have b_FractionD_initD_2 : Dfl K (T K) fd_FractionD_initD [(PySem.Str.ofString "self"), (PySem.Str.ofString "num"), (PySem.Str.ofString "den")] [.int 1] := dfl1 F_FractionD_initD 2 0 (by intro h; cases h) rfl (fun _ => .cons (.int _) (.nil)) fun _ _ _ _ _ _ _ us its hl hi => match us, its, hl, hi with | [_, _], [_], _, _ => ⟨_, rfl, rfl⟩
  have b_FractionD_initD_3 : Dfl K (T K) fd_FractionD_initD [(PySem.Str.ofString "self"), (PySem.Str.ofString "num"), (PySem.Str.ofString "den")] [] := dfl1 F_FractionD_initD 3 1 (by intro h; cases h) rfl (fun _ => .nil) fun _ _ _ _ _ _ _ us its hl hi => match us, its, hl, hi with | [_, _, _], [_], _, _ => ⟨_, rfl, rfl⟩
  have sc := sc_Poly_lead
  have F' : FunD K (PySem.Str.ofString "lead") (PySem.Str.ofString "Poly.lead") (defArgs (mem 20 5)) (defBody (mem 20 5)) (defScope (mem 20 5)) (d_Poly_lead.dvs K) [] (adr K (.p (PySem.Str.ofString "Poly") (PySem.Str.ofString "lead"))) fd := F
  have z := @fn_okE P w K mg base _ _ _ _ _ _ _ _ fd (T K) [(PySem.Str.ofString "self")] [(PySem.Str.ofString "self")] 2 [] b_Poly_lead F' sc rfl
  have z2 : _ → FnOk P w K mg base (L2.CX P w) 3 (adr K (.p (PySem.Str.ofString "Poly") (PySem.Str.ofString "lead"))) fd [(PySem.Str.ofString "self")] (spM K (T K) 1 m_Poly_lead) := z
  refine ⟨fd, F, z2 ?_⟩
  intro cdv A outer s H Ex X eX hr tk hp
  subst eX
  exact (zs_cons (z_if (tf_cmp of_eq (pf_callB cf_len rfl (free_of E.X E.G E.f0) bt_len (af_cons (pf_fld E.tft_coefs (pf_v (pv 0))) af_nil)) pf_int (by rfl)) (zs_cons (z_ret (pf_call (kf_mk (mk_of (c := 0) rfl E.f43) G_FractionD_initD (hr.mono (by decide)) b_FractionD_initD_2 tk) rfl (glo_of E.X E.G E.f44) (keep_of E.f44) (af_cons pf_int af_nil))) zs_nil) zs_nil) (zs_cons (z_ret (pf_call (kf_mk (mk_of (c := 0) rfl E.f43) G_FractionD_initD (hr.mono (by decide)) b_FractionD_initD_3 tk) rfl (glo_of E.X E.G E.f44) (keep_of E.f44) (af_cons (pf_ix (pf_fld E.tft_coefs (pf_v (pv 0))) (pf_neg pf_int)) (af_cons (pf_fld E.tft_den (pf_v (pv 0))) af_nil)))) zs_nil))
/-! monic -/
def b_monic : En → SOut := (sCons (sIf (tst (prp 1 m_Poly_is_zero (rd 0))) (sCons (sRet (rd 0)) sNil) sNil) (sCons (sRet (mt 1 (fnM 2 [] m_Poly_scaled) (rd 0) (aC (mt 0 (fnM 2 [] m_Fraction_over) (cl1 (mkM 0 2 3 [.int 1] m_FractionD_initD) (aC (cst (.int 1)) aN)) (aC (prp 1 m_Poly_lead (rd 0)) aN)) aN))) sNil))
def m_monic : En → Out D := mOf 1 [] b_monic
theorem sc_monic : FnScope [(PySem.Str.ofString "p")] [(PySem.Str.ofString "p")] (defScope (top 26)) := ⟨rfl, rfl, rfl, by decide +kernel, rfl, by decide +kernel, by decide +kernel⟩
theorem ok_monic {P : Program} {w : World} {K : PySem.W.Frag} {mg : Str → Option Value} {base h : Heap} (E : Bd K mg h) : Got P w K mg base (T K) d_monic 5 [(PySem.Str.ofString "p")] m_monic := by
  obtain ⟨fd, F⟩ := E.c.def_ 38 (d := d_monic)
  obtain ⟨fd_Poly_is_zero, F_Poly_is_zero, G_Poly_is_zero⟩ := ok_Poly_is_zero (P := P) (w := w) (base := base) E
  obtain ⟨fd_Poly_scaled, F_Poly_scaled, G_Poly_scaled⟩ := ok_Poly_scaled (P := P) (w := w) (base := base) E
  obtain ⟨fd_FractionD_initD, F_FractionD_initD, G_FractionD_initD⟩ := ok_FractionD_initD (P := P) (w := w) (base := base) E
  obtain ⟨fd_Fraction_over, F_Fraction_over, G_Fraction_over⟩ := ok_Fraction_over (P := P) (w := w) (base := base) E
  obtain ⟨fd_Poly_lead, F_Poly_lead, G_Poly_lead⟩ := ok_Poly_lead (P := P) (w := w) (base := base) E
  have b_Poly_is_zero_1 : Dfl K (T K) fd_Poly_is_zero [(PySem.Str.ofString "self")] [] := dfl0 F_Poly_is_zero fun _ _ _ _ _ _ us hl => match us, hl with | [_], _ => rfl
  have b_Poly_scaled_2 : Dfl K (T K) fd_Poly_scaled [(PySem.Str.ofString "self"), (PySem.Str.ofString "factor")] [] := dfl0 F_Poly_scaled fun _ _ _ _ _ _ us hl => match us, hl with | [_, _], _ => rfl
  have b_FractionD_initD_2 : Dfl K (T K) fd_FractionD_initD [(PySem.Str.ofString "self"), (PySem.Str.ofString "num"), (PySem.Str.ofString "den")] [.int 1] := dfl1 F_FractionD_initD 2 0 (by intro h; cases h) rfl (fun _ => .cons (.int _) (.nil)) fun _ _ _ _ _ _ _ us its hl hi => match us, its, hl, hi with | [_, _], [_], _, _ => ⟨_, rfl, rfl⟩
  have b_Fraction_over_2 : Dfl K (T K) fd_Fraction_over [(PySem.Str.ofString "self"), (PySem.Str.ofString "other")] [] := dfl0 F_Fraction_over fun _ _ _ _ _ _ us hl => match us, hl with | [_, _], _ => rfl
  have b_Poly_lead_1 : Dfl K (T K) fd_Poly_lead [(PySem.Str.ofString "self")] [] := dfl0 F_Poly_lead fun _ _ _ _ _ _ us hl => match us, hl with | [_], _ => rfl
  have sc := sc_monic
  have F' : FunD K (PySem.Str.ofString "monic") (PySem.Str.ofString "monic") (defArgs (top 26)) (defBody (top 26)) (defScope (top 26)) (d_monic.dvs K) [] (adr K (.g (PySem.Str.ofString "monic"))) fd := F
  have z := @fn_okE P w K mg base _ _ _ _ _ _ _ _ fd (T K) [(PySem.Str.ofString "p")] [(PySem.Str.ofString "p")] 4 [] b_monic F' sc rfl
  have z2 : _ → FnOk P w K mg base (L2.CX P w) 5 (adr K (.g (PySem.Str.ofString "monic"))) fd [(PySem.Str.ofString "p")] (spM K (T K) 1 m_monic) := z
  refine ⟨fd, F, z2 ?_⟩
  intro cdv A outer s H Ex X eX hr tk hp
  subst eX
  exact (zs_cons (z_if (tf_val (pf_prp (prp_of (c := 1) rfl E.f5 E.f10) G_Poly_is_zero rfl (hr.mono (by decide)) b_Poly_is_zero_1 (pf_v (pv 0)))) (zs_cons (z_ret (pf_v (pv 0))) zs_nil) zs_nil) (zs_cons (z_ret (pf_mt (mt_of (c := 1) rfl E.f5 E.f72) (kf_fn G_Poly_scaled (hr.mono (by decide)) b_Poly_scaled_2 tk) (pf_v (pv 0)) (af_cons (pf_mt (mt_of (c := 0) rfl E.f17 E.f56) (kf_fn G_Fraction_over (hr.mono (by decide)) b_Fraction_over_2 tk) (pf_call (kf_mk (mk_of (c := 0) rfl E.f43) G_FractionD_initD (hr.mono (by decide)) b_FractionD_initD_2 tk) rfl (glo_of E.X E.G E.f44) (keep_of E.f44) (af_cons pf_int af_nil)) (af_cons (pf_prp (prp_of (c := 1) rfl E.f5 E.f73) G_Poly_lead rfl (hr.mono (by decide)) b_Poly_lead_1 (pf_v (pv 0))) af_nil)) af_nil))) zs_nil))
/-! common_divisor -/
def b_common_divisor : En → SOut := (sCons (sSet 2 (cl1 (fnM 1 [] m_primitive) (aC (rd 0) aN))) (sCons (sSet 3 (cl1 (fnM 1 [] m_primitive) (aC (rd 1) aN))) (sCons (whL (tNot1 (tst (prp 1 m_Poly_is_zero (rd 3)))) (sCons (sSet 4 (ix (cl1 (fnM 2 [] m_divide) (aC (rd 2) (aC (rd 3) aN))) (cst (.int 1)))) (sCons (sSet 2 (rd 3)) (sCons (sSet 3 (cl1 (fnM 1 [] m_primitive) (aC (rd 4) aN))) sNil))) 1000000000) (sCons (sRet (cl1 (fnM 1 [] m_monic) (aC (rd 2) aN))) sNil))))
def m_common_divisor : En → Out D := mOf 5 [] b_common_divisor
theorem sc_common_divisor : FnScope [(PySem.Str.ofString "p"), (PySem.Str.ofString "q"), (PySem.Str.ofString "first"), (PySem.Str.ofString "second"), (PySem.Str.ofString "rest")] [(PySem.Str.ofString "p"), (PySem.Str.ofString "q")] (defScope (top 28)) := ⟨rfl, rfl, rfl, by decide +kernel, rfl, by decide +kernel, by decide +kernel⟩
theorem ok_common_divisor {P : Program} {w : World} {K : PySem.W.Frag} {mg : Str → Option Value} {base h : Heap} (E : Bd K mg h) : Got P w K mg base (T K) d_common_divisor 6 [(PySem.Str.ofString "p"), (PySem.Str.ofString "q")] m_common_divisor := by
  obtain ⟨fd, F⟩ := E.c.def_ 39 (d := d_common_divisor)
  obtain ⟨fd_primitive, F_primitive, G_primitive⟩ := ok_primitive (P := P) (w := w) (base := base) E
  obtain ⟨fd_Poly_is_zero, F_Poly_is_zero, G_Poly_is_zero⟩ := ok_Poly_is_zero (P := P) (w := w) (base := base) E
  obtain ⟨fd_divide, F_divide, G_divide⟩ := ok_divide (P := P) (w := w) (base := base) E
  obtain ⟨fd_monic, F_monic, G_monic⟩ := ok_monic (P := P) (w := w) (base := base) E
  have b_primitive_1 : Dfl K (T K) fd_primitive [(PySem.Str.ofString "p")] [] := dfl0 F_primitive fun _ _ _ _ _ _ us hl => match us, hl with | [_], _ => rfl
  have b_Poly_is_zero_1 : Dfl K (T K) fd_Poly_is_zero [(PySem.Str.ofString "self")] [] := dfl0 F_Poly_is_zero fun _ _ _ _ _ _ us hl => match us, hl with | [_], _ => rfl
  have b_divide_2 : Dfl K (T K) fd_divide [(PySem.Str.ofString "p"), (PySem.Str.ofString "q")] [] := dfl0 F_divide fun _ _ _ _ _ _ us hl => match us, hl with | [_, _], _ => rfl
  have b_monic_1 : Dfl K (T K) fd_monic [(PySem.Str.ofString "p")] [] := dfl0 F_monic fun _ _ _ _ _ _ us hl => match us, hl with | [_], _ => rfl
  have sc := sc_common_divisor
  have F' : FunD K (PySem.Str.ofString "common_divisor") (PySem.Str.ofString "common_divisor") (defArgs (top 28)) (defBody (top 28)) (defScope (top 28)) (d_common_divisor.dvs K) [] (adr K (.g (PySem.Str.ofString "common_divisor"))) fd := F
  have z := @fn_okE P w K mg base _ _ _ _ _ _ _ _ fd (T K) [(PySem.Str.ofString "p"), (PySem.Str.ofString "q"), (PySem.Str.ofString "first"), (PySem.Str.ofString "second"), (PySem.Str.ofString "rest")] [(PySem.Str.ofString "p"), (PySem.Str.ofString "q")] 5 [] b_common_divisor F' sc rfl
  have z2 : _ → FnOk P w K mg base (L2.CX P w) 6 (adr K (.g (PySem.Str.ofString "common_divisor"))) fd [(PySem.Str.ofString "p"), (PySem.Str.ofString "q")] (spM K (T K) 2 m_common_divisor) := z
  refine ⟨fd, F, z2 ?_⟩
  intro cdv A outer s H Ex X eX hr tk hp
  subst eX
  exact (zs_cons (z_set (i := 2) sc.nd rfl (Or.inl rfl) (pf_call (kf_fn G_primitive (hr.mono (by decide)) b_primitive_1 tk) rfl (glo_of E.X E.G E.f70) (keep_of E.f70) (af_cons (pf_v (pv 0)) af_nil))) (zs_cons (z_set (i := 3) sc.nd rfl (Or.inl rfl) (pf_call (kf_fn G_primitive (hr.mono (by decide)) b_primitive_1 tk) rfl (glo_of E.X E.G E.f70) (keep_of E.f70) (af_cons (pf_v (pv 1)) af_nil))) (zs_cons (z_while 1000000000 hp (tf_not (tf_val (pf_prp (prp_of (c := 1) rfl E.f5 E.f10) G_Poly_is_zero rfl (hr.mono (by decide)) b_Poly_is_zero_1 (pf_v (pv 3))))) (zs_cons (z_set (i := 4) sc.nd rfl (Or.inl rfl) (pf_ix (pf_call (kf_fn G_divide (hr.mono (by decide)) b_divide_2 tk) rfl (glo_of E.X E.G E.f71) (keep_of E.f71) (af_cons (pf_v (pv 2)) (af_cons (pf_v (pv 3)) af_nil))) pf_int)) (zs_cons (z_set (i := 2) sc.nd rfl (Or.inl rfl) (pf_v (pv 3))) (zs_cons (z_set (i := 3) sc.nd rfl (Or.inl rfl) (pf_call (kf_fn G_primitive (hr.mono (by decide)) b_primitive_1 tk) rfl (glo_of E.X E.G E.f70) (keep_of E.f70) (af_cons (pf_v (pv 4)) af_nil))) zs_nil)))) (zs_cons (z_ret (pf_call (kf_fn G_monic (hr.mono (by decide)) b_monic_1 tk) rfl (glo_of E.X E.G E.f74) (keep_of E.f74) (af_cons (pf_v (pv 2)) af_nil))) zs_nil))))
/-! exact -/
def b_exact : En → SOut := (sCons (sRet (ix (cl1 (fnM 2 [] m_divide) (aC (rd 0) (aC (rd 1) aN))) (cst (.int 0)))) sNil)
def m_exact : En → Out D := mOf 2 [] b_exact
theorem sc_exact : FnScope [(PySem.Str.ofString "p"), (PySem.Str.ofString "q")] [(PySem.Str.ofString "p"), (PySem.Str.ofString "q")] (defScope (top 25)) := ⟨rfl, rfl, rfl, by decide +kernel, rfl, by decide +kernel, by decide +kernel⟩
theorem ok_exact {P : Program} {w : World} {K : PySem.W.Frag} {mg : Str → Option Value} {base h : Heap} (E : Bd K mg h) : Got P w K mg base (T K) d_exact 5 [(PySem.Str.ofString "p"), (PySem.Str.ofString "q")] m_exact := by
  obtain ⟨fd, F⟩ := E.c.def_ 40 (d := d_exact)
  obtain ⟨fd_divide, F_divide, G_divide⟩ := ok_divide (P := P) (w := w) (base := base) E
  have b_divide_2 : Dfl K (T K) fd_divide [(PySem.Str.ofString "p"), (PySem.Str.ofString "q")] [] := dfl0 F_divide fun _ _ _ _ _ _ us hl => match us, hl with | [_, _], _ => rfl
  have sc := sc_exact
  have F' : FunD K (PySem.Str.ofString "exact") (PySem.Str.ofString "exact") (defArgs (top 25)) (defBody (top 25)) (defScope (top 25)) (d_exact.dvs K) [] (adr K (.g (PySem.Str.ofString "exact"))) fd := F
  have z := @fn_okE P w K mg base _ _ _ _ _ _ _ _ fd (T K) [(PySem.Str.ofString "p"), (PySem.Str.ofString "q")] [(PySem.Str.ofString "p"), (PySem.Str.ofString "q")] 4 [] b_exact F' sc rfl
  have z2 : _ → FnOk P w K mg base (L2.CX P w) 5 (adr K (.g (PySem.Str.ofString "exact"))) fd [(PySem.Str.ofString "p"), (PySem.Str.ofString "q")] (spM K (T K) 2 m_exact) := z
  refine ⟨fd, F, z2 ?_⟩
  intro cdv A outer s H Ex X eX hr tk hp
  subst eX
  exact (zs_cons (z_ret (pf_ix (pf_call (kf_fn G_divide (hr.mono (by decide)) b_divide_2 tk) rfl (glo_of E.X E.G E.f71) (keep_of E.f71) (af_cons (pf_v (pv 0)) (af_cons (pf_v (pv 1)) af_nil))) pf_int)) zs_nil)
/-! Quotient.__init__ -/
def b_QuotientD_initD : En → SOut := (sCons (sIf (tst (prp 1 m_Poly_is_zero (rd 2))) (sCons sEr sNil) sNil) (sCons (sSet 3 (cl1 (fnM 2 [] m_common_divisor) (aC (rd 1) (aC (rd 2) aN)))) (sCons (sSet 4 (cl1 (fnM 2 [] m_exact) (aC (rd 2) (aC (rd 3) aN)))) (sCons (sSet 5 (mt 0 (fnM 2 [] m_Fraction_over) (cl1 (mkM 0 2 3 [.int 1] m_FractionD_initD) (aC (cst (.int 1)) aN)) (aC (prp 1 m_Poly_lead (rd 4)) aN))) (sCons (sFldS ft_num 0 (mt 1 (fnM 2 [] m_Poly_scaled) (cl1 (fnM 2 [] m_exact) (aC (rd 1) (aC (rd 3) aN))) (aC (rd 5) aN))) (sCons (sFldS ft_den 0 (mt 1 (fnM 2 [] m_Poly_scaled) (rd 4) (aC (rd 5) aN))) sNil))))))
def m_QuotientD_initD : En → Out D := mOf 6 [0] b_QuotientD_initD
theorem sc_QuotientD_initD : FnScope [(PySem.Str.ofString "self"), (PySem.Str.ofString "num"), (PySem.Str.ofString "den"), (PySem.Str.ofString "divisor"), (PySem.Str.ofString "reduced"), (PySem.Str.ofString "factor")] [(PySem.Str.ofString "self"), (PySem.Str.ofString "num"), (PySem.Str.ofString "den")] (defScope (mem 30 0)) := ⟨rfl, rfl, rfl, by decide +kernel, rfl, by decide +kernel, by decide +kernel⟩
theorem ok_QuotientD_initD {P : Program} {w : World} {K : PySem.W.Frag} {mg : Str → Option Value} {base h : Heap} (E : Bd K mg h) : Got P w K mg base (T K) d_QuotientD_initD 7 [(PySem.Str.ofString "self"), (PySem.Str.ofString "num"), (PySem.Str.ofString "den")] m_QuotientD_initD := by
  obtain ⟨fd, F⟩ := E.c.def_ 41 (d := d_QuotientD_initD)
  obtain ⟨fd_Poly_is_zero, F_Poly_is_zero, G_Poly_is_zero⟩ := ok_Poly_is_zero (P := P) (w := w) (base := base) E
  obtain ⟨fd_common_divisor, F_common_divisor, G_common_divisor⟩ := ok_common_divisor (P := P) (w := w) (base := base) E
  obtain ⟨fd_exact, F_exact, G_exact⟩ := ok_exact (P := P) (w := w) (base := base) E
  obtain ⟨fd_FractionD_initD, F_FractionD_initD, G_FractionD_initD⟩ := ok_FractionD_initD (P := P) (w := w) (base := base) E
  obtain ⟨fd_Fraction_over, F_Fraction_over, G_Fraction_over⟩ := ok_Fraction_over (P := P) (w := w) (base := base) E
  obtain ⟨fd_Poly_lead, F_Poly_lead, G_Poly_lead⟩ := ok_Poly_lead (P := P) (w := w) (base := base) E
  obtain ⟨fd_Poly_scaled, F_Poly_scaled, G_Poly_scaled⟩ := ok_Poly_scaled (P := P) (w := w) (base := base) E
  have b_Poly_is_zero_1 : Dfl K (T K) fd_Poly_is_zero [(PySem.Str.ofString "self")] [] := dfl0 F_Poly_is_zero fun _ _ _ _ _ _ us hl => match us, hl with | [_], _ => rfl
  have b_common_divisor_2 : Dfl K (T K) fd_common_divisor [(PySem.Str.ofString "p"), (PySem.Str.ofString "q")] [] := dfl0 F_common_divisor fun _ _ _ _ _ _ us hl => match us, hl with | [_, _], _ => rfl
  have b_exact_2 : Dfl K (T K) fd_exact [(PySem.Str.ofString "p"), (PySem.Str.ofString "q")] [] := dfl0 F_exact fun _ _ _ _ _ _ us hl => match us, hl with | [_, _], _ => rfl
  have b_FractionD_initD_2 : Dfl K (T K) fd_FractionD_initD [(PySem.Str.ofString "self"), (PySem.Str.ofString "num"), (PySem.Str.ofString "den")] [.int 1] := dfl1 F_FractionD_initD 2 0 (by intro h; cases h) rfl (fun _ => .cons (.int _) (.nil)) fun _ _ _ _ _ _ _ us its hl hi => match us, its, hl, hi with | [_, _], [_], _, _ => ⟨_, rfl, rfl⟩
  have b_Fraction_over_2 : Dfl K (T K) fd_Fraction_over [(PySem.Str.ofString "self"), (PySem.Str.ofString "other")] [] := dfl0 F_Fraction_over fun _ _ _ _ _ _ us hl => match us, hl with | [_, _], _ => rfl
  have b_Poly_lead_1 : Dfl K (T K) fd_Poly_lead [(PySem.Str.ofString "self")] [] := dfl0 F_Poly_lead fun _ _ _ _ _ _ us hl => match us, hl with | [_], _ => rfl
  have b_Poly_scaled_2 : Dfl K (T K) fd_Poly_scaled [(PySem.Str.ofString "self"), (PySem.Str.ofString "factor")] [] := dfl0 F_Poly_scaled fun _ _ _ _ _ _ us hl => match us, hl with | [_, _], _ => rfl
  have sc := sc_QuotientD_initD
  have F' : FunD K (PySem.Str.ofString "__init__") (PySem.Str.ofString "Quotient.__init__") (defArgs (mem 30 0)) (defBody (mem 30 0)) (defScope (mem 30 0)) (d_QuotientD_initD.dvs K) [] (adr K (.m (PySem.Str.ofString "Quotient") (PySem.Str.ofString "__init__"))) fd := F
  have z := @fn_okE P w K mg base _ _ _ _ _ _ _ _ fd (T K) [(PySem.Str.ofString "self"), (PySem.Str.ofString "num"), (PySem.Str.ofString "den"), (PySem.Str.ofString "divisor"), (PySem.Str.ofString "reduced"), (PySem.Str.ofString "factor")] [(PySem.Str.ofString "self"), (PySem.Str.ofString "num"), (PySem.Str.ofString "den")] 6 [0] b_QuotientD_initD F' sc rfl
  have z2 : _ → FnOk P w K mg base (L2.CX P w) 7 (adr K (.m (PySem.Str.ofString "Quotient") (PySem.Str.ofString "__init__"))) fd [(PySem.Str.ofString "self"), (PySem.Str.ofString "num"), (PySem.Str.ofString "den")] (spM K (T K) 3 m_QuotientD_initD) := z
  refine ⟨fd, F, z2 ?_⟩
  intro cdv A outer s H Ex X eX hr tk hp
  subst eX
  exact (zs_cons (z_if (tf_val (pf_prp (prp_of (c := 1) rfl E.f5 E.f10) G_Poly_is_zero rfl (hr.mono (by decide)) b_Poly_is_zero_1 (pf_v (pv 2)))) (zs_cons z_never zs_nil) zs_nil) (zs_cons (z_set (i := 3) sc.nd rfl (Or.inl rfl) (pf_call (kf_fn G_common_divisor (hr.mono (by decide)) b_common_divisor_2 tk) rfl (glo_of E.X E.G E.f75) (keep_of E.f75) (af_cons (pf_v (pv 1)) (af_cons (pf_v (pv 2)) af_nil)))) (zs_cons (z_set (i := 4) sc.nd rfl (Or.inl rfl) (pf_call (kf_fn G_exact (hr.mono (by decide)) b_exact_2 tk) rfl (glo_of E.X E.G E.f76) (keep_of E.f76) (af_cons (pf_v (pv 2)) (af_cons (pf_v (pv 3)) af_nil)))) (zs_cons (z_set (i := 5) sc.nd rfl (Or.inl rfl) (pf_mt (mt_of (c := 0) rfl E.f17 E.f56) (kf_fn G_Fraction_over (hr.mono (by decide)) b_Fraction_over_2 tk) (pf_call (kf_mk (mk_of (c := 0) rfl E.f43) G_FractionD_initD (hr.mono (by decide)) b_FractionD_initD_2 tk) rfl (glo_of E.X E.G E.f44) (keep_of E.f44) (af_cons pf_int af_nil)) (af_cons (pf_prp (prp_of (c := 1) rfl E.f5 E.f73) G_Poly_lead rfl (hr.mono (by decide)) b_Poly_lead_1 (pf_v (pv 4))) af_nil))) (zs_cons (z_fld E.tft_num (fun c _ _ => ct_len (by rfl) c) (pv 0) (pf_mt (mt_of (c := 1) rfl E.f5 E.f72) (kf_fn G_Poly_scaled (hr.mono (by decide)) b_Poly_scaled_2 tk) (pf_call (kf_fn G_exact (hr.mono (by decide)) b_exact_2 tk) rfl (glo_of E.X E.G E.f76) (keep_of E.f76) (af_cons (pf_v (pv 1)) (af_cons (pf_v (pv 3)) af_nil))) (af_cons (pf_v (pv 5)) af_nil))) (zs_cons (z_fld E.tft_den (fun c _ _ => ct_len (by rfl) c) (pv 0) (pf_mt (mt_of (c := 1) rfl E.f5 E.f72) (kf_fn G_Poly_scaled (hr.mono (by decide)) b_Poly_scaled_2 tk) (pf_v (pv 4)) (af_cons (pf_v (pv 5)) af_nil))) zs_nil))))))
/-! _law_refuses_others -/
def b__law_refuses_others : En → SOut := (sCons (sIf (tst (cl1 (fnM 3 [] m_accepts_rows) (aC (rd 0) (aC (rd 1) (aC (vTup (aC (cst (.str (PySem.Str.ofString "recurrence"))) (aC (cst (.int 1)) (aC (fld ft_operator (rd 0)) (aC (cl1 (mkM 2 1 2 [] m_Poly2D_initD) (aC (fz (nLst aN)) aN)) aN))))) aN))))) (sCons (sRet (cst (.bl false))) sNil) sNil) (sCons (sIf (tst (cl1 (fnM 3 [] m_accepts_rows) (aC (rd 0) (aC (rd 1) (aC (vTup (aC (cst (.str (PySem.Str.ofString "closed"))) (aC (cl1 (mkM 3 2 3 [] m_QuotientD_initD) (aC (cl1 (mkM 1 2 3 [.int 1] m_PolyD_initD) (aC (fz (nLst (aC (cst (.int 1)) aN))) aN)) (aC (cl1 (mkM 1 2 3 [.int 1] m_PolyD_initD) (aC (fz (nLst (aC (cst (.int 1)) aN))) aN)) aN))) aN))) aN))))) (sCons (sRet (cst (.bl false))) sNil) sNil) (sCons (sRet (vNot1 (cl1 (fnM 3 [] m_accepts_rows) (aC (rd 0) (aC (rd 1) (aC (vTup (aC (cst (.str (PySem.Str.ofString "none"))) (aC (cst (.int 0)) (aC (cst (.int 0)) (aC (vTup aN) aN))))) aN)))))) sNil)))
def m__law_refuses_others : En → Out D := mOf 2 [] b__law_refuses_others
theorem sc__law_refuses_others : FnScope [(PySem.Str.ofString "_law_first"), (PySem.Str.ofString "_law_second")] [(PySem.Str.ofString "_law_first"), (PySem.Str.ofString "_law_second")] (defScope (top 46)) := ⟨rfl, rfl, rfl, by decide +kernel, rfl, by decide +kernel, by decide +kernel⟩
theorem ok__law_refuses_others {P : Program} {w : World} {K : PySem.W.Frag} {mg : Str → Option Value} {base h : Heap} (E : Bd K mg h) : Got P w K mg base (T K) d__law_refuses_others 9 [(PySem.Str.ofString "_law_first"), (PySem.Str.ofString "_law_second")] m__law_refuses_others := by
  obtain ⟨fd, F⟩ := E.c.def_ 42 (d := d__law_refuses_others)
  obtain ⟨fd_accepts_rows, F_accepts_rows, G_accepts_rows⟩ := ok_accepts_rows (P := P) (w := w) (base := base) E
  obtain ⟨fd_Poly2D_initD, F_Poly2D_initD, G_Poly2D_initD⟩ := ok_Poly2D_initD (P := P) (w := w) (base := base) E
  obtain ⟨fd_QuotientD_initD, F_QuotientD_initD, G_QuotientD_initD⟩ := ok_QuotientD_initD (P := P) (w := w) (base := base) E
  obtain ⟨fd_PolyD_initD, F_PolyD_initD, G_PolyD_initD⟩ := ok_PolyD_initD (P := P) (w := w) (base := base) E
  have b_accepts_rows_3 : Dfl K (T K) fd_accepts_rows [(PySem.Str.ofString "first"), (PySem.Str.ofString "second"), (PySem.Str.ofString "certificate")] [] := dfl0 F_accepts_rows fun _ _ _ _ _ _ us hl => match us, hl with | [_, _, _], _ => rfl
  have b_Poly2D_initD_2 : Dfl K (T K) fd_Poly2D_initD [(PySem.Str.ofString "self"), (PySem.Str.ofString "rows")] [] := dfl0 F_Poly2D_initD fun _ _ _ _ _ _ us hl => match us, hl with | [_, _], _ => rfl
  have b_QuotientD_initD_3 : Dfl K (T K) fd_QuotientD_initD [(PySem.Str.ofString "self"), (PySem.Str.ofString "num"), (PySem.Str.ofString "den")] [] := dfl0 F_QuotientD_initD fun _ _ _ _ _ _ us hl => match us, hl with | [_, _, _], _ => rfl
  have b_PolyD_initD_2 : Dfl K (T K) fd_PolyD_initD [(PySem.Str.ofString "self"), (PySem.Str.ofString "coefs"), (PySem.Str.ofString "den")] [.int 1] := dfl1 F_PolyD_initD 2 0 (by intro h; cases h) rfl (fun _ => .cons (.int _) (.nil)) fun _ _ _ _ _ _ _ us its hl hi => match us, its, hl, hi with | [_, _], [_], _, _ => ⟨_, rfl, rfl⟩
  have sc := sc__law_refuses_others
  have F' : FunD K (PySem.Str.ofString "_law_refuses_others") (PySem.Str.ofString "_law_refuses_others") (defArgs (top 46)) (defBody (top 46)) (defScope (top 46)) (d__law_refuses_others.dvs K) [] (adr K (.g (PySem.Str.ofString "_law_refuses_others"))) fd := F
  have z := @fn_okE P w K mg base _ _ _ _ _ _ _ _ fd (T K) [(PySem.Str.ofString "_law_first"), (PySem.Str.ofString "_law_second")] [(PySem.Str.ofString "_law_first"), (PySem.Str.ofString "_law_second")] 8 [] b__law_refuses_others F' sc rfl
  have z2 : _ → FnOk P w K mg base (L2.CX P w) 9 (adr K (.g (PySem.Str.ofString "_law_refuses_others"))) fd [(PySem.Str.ofString "_law_first"), (PySem.Str.ofString "_law_second")] (spM K (T K) 2 m__law_refuses_others) := z
  refine ⟨fd, F, z2 ?_⟩
  intro cdv A outer s H Ex X eX hr tk hp
  subst eX
  exact (zs_cons (z_if (tf_val (pf_call (kf_fn G_accepts_rows (hr.mono (by decide)) b_accepts_rows_3 tk) rfl (glo_of E.X E.G E.f64) (keep_of E.f64) (af_cons (pf_v (pv 0)) (af_cons (pf_v (pv 1)) (af_cons (pf_tup (af_cons pf_str (af_cons pf_int (af_cons (pf_fld E.tft_operator (pf_v (pv 0))) (af_cons (pf_call (kf_mk (mk_of (c := 2) rfl E.f68) G_Poly2D_initD (hr.mono (by decide)) b_Poly2D_initD_2 tk) rfl (glo_of E.X E.G E.f69) (keep_of E.f69) (af_cons (pf_n (pn_lst af_nil)) af_nil)) af_nil))))) af_nil))))) (zs_cons (z_ret pf_bl) zs_nil) zs_nil) (zs_cons (z_if (tf_val (pf_call (kf_fn G_accepts_rows (hr.mono (by decide)) b_accepts_rows_3 tk) rfl (glo_of E.X E.G E.f64) (keep_of E.f64) (af_cons (pf_v (pv 0)) (af_cons (pf_v (pv 1)) (af_cons (pf_tup (af_cons pf_str (af_cons (pf_call (kf_mk (mk_of (c := 3) rfl E.f77) G_QuotientD_initD (hr.mono (by decide)) b_QuotientD_initD_3 tk) rfl (glo_of E.X E.G E.f78) (keep_of E.f78) (af_cons (pf_call (kf_mk (mk_of (c := 1) rfl E.f22) G_PolyD_initD (hr.mono (by decide)) b_PolyD_initD_2 tk) rfl (glo_of E.X E.G E.f23) (keep_of E.f23) (af_cons (pf_n (pn_lst (af_cons pf_int af_nil))) af_nil)) (af_cons (pf_call (kf_mk (mk_of (c := 1) rfl E.f22) G_PolyD_initD (hr.mono (by decide)) b_PolyD_initD_2 tk) rfl (glo_of E.X E.G E.f23) (keep_of E.f23) (af_cons (pf_n (pn_lst (af_cons pf_int af_nil))) af_nil)) af_nil))) af_nil))) af_nil))))) (zs_cons (z_ret pf_bl) zs_nil) zs_nil) (zs_cons (z_ret (pf_not (pf_call (kf_fn G_accepts_rows (hr.mono (by decide)) b_accepts_rows_3 tk) rfl (glo_of E.X E.G E.f64) (keep_of E.f64) (af_cons (pf_v (pv 0)) (af_cons (pf_v (pv 1)) (af_cons (pf_tup (af_cons pf_str (af_cons pf_int (af_cons pf_int (af_cons (pf_tup af_nil) af_nil))))) af_nil)))))) zs_nil)))
/-! law -/
def b_law : En → SOut := (sCons (sSet 1 (cl1 (fnM 2 [] m__law_numbers) (aC (rd 0) (aC (cst (.int 12)) aN)))) (sCons (sSet 2 (cl1 (fnM 2 [] m__law_sequence) (aC (rd 1) (aC (cst (.int 0)) aN)))) (sCons (sSet 3 (cl1 (fnM 2 [] m__law_sequence) (aC (rd 1) (aC (cst (.int 4)) aN)))) (sCons (sIf (tst (op2 sEq (op2 iMod (ixV 1 (cst (.int 8))) (cst (.int 3))) (cst (.int 1)))) (sCons (sNest 3 (ix (rd 2) (cst (.int 0))) (nList (ix (rd 2) (cst (.int 1)))) (op2 iAdd (ix (ixV 3 (cst (.int 1))) (op2 iMod (ixV 1 (cst (.int 9))) (cl1 (fun ds => opt (kLen ds)) (aC (ixV 3 (cst (.int 1))) aN)))) (op2 iMod (ixV 1 (cst (.int 10))) (cst (.int 3)))) (op2 iMod (ixV 1 (cst (.int 9))) (cl1 (fun ds => opt (kLen ds)) (aC (ixV 3 (cst (.int 1))) aN)))) sNil) sNil) (sCons (sSet 4 (cl1 (fnM 1 [] m__law_row) (aC (rd 2) aN))) (sCons (sSet 5 (cl1 (fnM 1 [] m__law_row) (aC (rd 3) aN))) (sCons (sSet 6 (op2 iSub (op2 iMod (ixV 1 (cst (.int 11))) (cst (.int 15))) (cst (.int 2)))) (sCons (sSet 7 (cl1 (fnM 2 [] m__law_values) (aC (rd 2) (aC (cst (.int 14)) aN)))) (sCons (sSet 8 (cl1 (fnM 2 [] m__law_values) (aC (rd 3) (aC (cst (.int 14)) aN)))) (sCons (sSet 9 (cst (.bl false))) (sCons (sIf (tst (op2 iGe (rd 6) (cst (.int 0)))) (sCons (sSet 9 (op2 sNe (op2 iMul (ix (ixV 7 (cst (.int 0))) (rd 6)) (ix (ixV 8 (cst (.int 1))) (rd 6))) (op2 iMul (ix (ixV 8 (cst (.int 0))) (rd 6)) (ix (ixV 7 (cst (.int 1))) (rd 6))))) (sCons (sFor (itR1 (aC (rd 6) aN)) (gN 10) (sCons (sIf (tst (op2 sNe (op2 iMul (ix (ixV 7 (cst (.int 0))) (rd 10)) (ix (ixV 8 (cst (.int 1))) (rd 10))) (op2 iMul (ix (ixV 8 (cst (.int 0))) (rd 10)) (ix (ixV 7 (cst (.int 1))) (rd 10))))) (sCons (sSet 9 (cst (.bl false))) sNil) sNil) sNil)) sNil)) sNil) (sCons (sSet 11 (cl1 (fnM 3 [] m_accepts_rows) (aC (rd 4) (aC (rd 5) (aC (vTup (aC (cst (.str (PySem.Str.ofString "different"))) (aC (rd 6) aN))) aN))))) (sCons (sIf (tOr2 (tNot1 (tst (isi1 (kIsT "bool" [0, 1, 2, 3, 4, 5]) (rd 11)))) (tst (op2 sNe (rd 11) (rd 9)))) (sCons (sRet (cst (.bl false))) sNil) sNil) (sCons (sRet (vAnd2 (op2 bIs (cl1 (fnM 3 [] m_accepts_rows) (aC (rd 4) (aC (rd 4) (aC (vTup (aC (cst (.str (PySem.Str.ofString "different"))) (aC (cl1 (fun ds => opt (k2 (fun i j => .int (if j > i then j else i)) ds)) (aC (rd 6) (aC (cst (.int 0)) aN))) aN))) aN)))) (cst (.bl false))) (cl1 (fnM 2 [] m__law_refuses_others) (aC (rd 4) (aC (rd 5) aN))))) sNil))))))))))))))
def m_law : En → Out D := mOf 12 [] b_law
theorem sc_law : FnScope [(PySem.Str.ofString "_law_script"), (PySem.Str.ofString "_law_numbers_here"), (PySem.Str.ofString "_law_parts"), (PySem.Str.ofString "_law_others"), (PySem.Str.ofString "_law_first"), (PySem.Str.ofString "_law_second"), (PySem.Str.ofString "_law_index"), (PySem.Str.ofString "_law_ours"), (PySem.Str.ofString "_law_theirs"), (PySem.Str.ofString "_law_due"), (PySem.Str.ofString "_law_i"), (PySem.Str.ofString "_law_actual")] [(PySem.Str.ofString "_law_script")] (defScope (top 47)) := ⟨rfl, rfl, rfl, by decide +kernel, rfl, by decide +kernel, by decide +kernel⟩
theorem ok_law {P : Program} {w : World} {K : PySem.W.Frag} {mg : Str → Option Value} {base h : Heap} (E : Bd K mg h) : Got P w K mg base (T K) d_law 13 [(PySem.Str.ofString "_law_script")] m_law := by
  obtain ⟨fd, F⟩ := E.c.def_ 43 (d := d_law)
  obtain ⟨fd__law_numbers, F__law_numbers, G__law_numbers⟩ := ok__law_numbers (P := P) (w := w) (base := base) E
  obtain ⟨fd__law_sequence, F__law_sequence, G__law_sequence⟩ := ok__law_sequence (P := P) (w := w) (base := base) E
  obtain ⟨fd__law_row, F__law_row, G__law_row⟩ := ok__law_row (P := P) (w := w) (base := base) E
  obtain ⟨fd__law_values, F__law_values, G__law_values⟩ := ok__law_values (P := P) (w := w) (base := base) E
  obtain ⟨fd_accepts_rows, F_accepts_rows, G_accepts_rows⟩ := ok_accepts_rows (P := P) (w := w) (base := base) E
  obtain ⟨fd__law_refuses_others, F__law_refuses_others, G__law_refuses_others⟩ := ok__law_refuses_others (P := P) (w := w) (base := base) E
  have b__law_numbers_2 : Dfl K (T K) fd__law_numbers [(PySem.Str.ofString "_law_script"), (PySem.Str.ofString "_law_count")] [] := dfl0 F__law_numbers fun _ _ _ _ _ _ us hl => match us, hl with | [_, _], _ => rfl
  have b__law_sequence_2 : Dfl K (T K) fd__law_sequence [(PySem.Str.ofString "_law_numbers_here"), (PySem.Str.ofString "_law_place")] [] := dfl0 F__law_sequence fun _ _ _ _ _ _ us hl => match us, hl with | [_, _], _ => rfl
  have b__law_row_1 : Dfl K (T K) fd__law_row [(PySem.Str.ofString "_law_parts")] [] := dfl0 F__law_row fun _ _ _ _ _ _ us hl => match us, hl with | [_], _ => rfl
  have b__law_values_2 : Dfl K (T K) fd__law_values [(PySem.Str.ofString "_law_parts"), (PySem.Str.ofString "_law_count")] [] := dfl0 F__law_values fun _ _ _ _ _ _ us hl => match us, hl with | [_, _], _ => rfl
  have b_accepts_rows_3 : Dfl K (T K) fd_accepts_rows [(PySem.Str.ofString "first"), (PySem.Str.ofString "second"), (PySem.Str.ofString "certificate")] [] := dfl0 F_accepts_rows fun _ _ _ _ _ _ us hl => match us, hl with | [_, _, _], _ => rfl
  have b__law_refuses_others_2 : Dfl K (T K) fd__law_refuses_others [(PySem.Str.ofString "_law_first"), (PySem.Str.ofString "_law_second")] [] := dfl0 F__law_refuses_others fun _ _ _ _ _ _ us hl => match us, hl with | [_, _], _ => rfl
  have sc := sc_law
  have F' : FunD K (PySem.Str.ofString "law") (PySem.Str.ofString "law") (defArgs (top 47)) (defBody (top 47)) (defScope (top 47)) (d_law.dvs K) [] (adr K (.g (PySem.Str.ofString "law"))) fd := F
  have z := @fn_okE P w K mg base _ _ _ _ _ _ _ _ fd (T K) [(PySem.Str.ofString "_law_script"), (PySem.Str.ofString "_law_numbers_here"), (PySem.Str.ofString "_law_parts"), (PySem.Str.ofString "_law_others"), (PySem.Str.ofString "_law_first"), (PySem.Str.ofString "_law_second"), (PySem.Str.ofString "_law_index"), (PySem.Str.ofString "_law_ours"), (PySem.Str.ofString "_law_theirs"), (PySem.Str.ofString "_law_due"), (PySem.Str.ofString "_law_i"), (PySem.Str.ofString "_law_actual")] [(PySem.Str.ofString "_law_script")] 12 [] b_law F' sc rfl
  have z2 : _ → FnOk P w K mg base (L2.CX P w) 13 (adr K (.g (PySem.Str.ofString "law"))) fd [(PySem.Str.ofString "_law_script")] (spM K (T K) 1 m_law) := z
  refine ⟨fd, F, z2 ?_⟩
  intro cdv A outer s H Ex X eX hr tk hp
  subst eX
  exact (zs_cons (z_set (i := 1) sc.nd rfl (Or.inl rfl) (pf_call (kf_fn G__law_numbers (hr.mono (by decide)) b__law_numbers_2 tk) rfl (glo_of E.X E.G E.f2) (keep_of E.f2) (af_cons (pf_v (pv 0)) (af_cons pf_int af_nil)))) (zs_cons (z_set (i := 2) sc.nd rfl (Or.inl rfl) (pf_call (kf_fn G__law_sequence (hr.mono (by decide)) b__law_sequence_2 tk) rfl (glo_of E.X E.G E.f3) (keep_of E.f3) (af_cons (pf_v (pv 1)) (af_cons pf_int af_nil)))) (zs_cons (z_set (i := 3) sc.nd rfl (Or.inl rfl) (pf_call (kf_fn G__law_sequence (hr.mono (by decide)) b__law_sequence_2 tk) rfl (glo_of E.X E.G E.f3) (keep_of E.f3) (af_cons (pf_v (pv 1)) (af_cons pf_int af_nil)))) (zs_cons (z_if (tf_cmp of_eq (pf_op of_mod (pf_ixV (pv 1) pf_int) pf_int) pf_int (by rfl)) (zs_nest (i := 3) sc.nd rfl (Or.inl rfl) (pf_ix (pf_v (pv 2)) pf_int) (pn_list (pf_ix (pf_v (pv 2)) pf_int) rfl (free_of E.X E.G E.f4) bt_list) (pf_op of_add (pf_ix (pf_ixV (pv 3) pf_int) (pf_op of_mod (pf_ixV (pv 1) pf_int) (pf_callB cf_len rfl (free_of E.X E.G E.f0) bt_len (af_cons (pf_ixV (pv 3) pf_int) af_nil)))) (pf_op of_mod (pf_ixV (pv 1) pf_int) pf_int)) (pf_op of_mod (pf_ixV (pv 1) pf_int) (pf_callB cf_len rfl (free_of E.X E.G E.f0) bt_len (af_cons (pf_ixV (pv 3) pf_int) af_nil))) zs_nil (pv 3)) zs_nil) (zs_cons (z_set (i := 4) sc.nd rfl (Or.inl rfl) (pf_call (kf_fn G__law_row (hr.mono (by decide)) b__law_row_1 tk) rfl (glo_of E.X E.G E.f48) (keep_of E.f48) (af_cons (pf_v (pv 2)) af_nil))) (zs_cons (z_set (i := 5) sc.nd rfl (Or.inl rfl) (pf_call (kf_fn G__law_row (hr.mono (by decide)) b__law_row_1 tk) rfl (glo_of E.X E.G E.f48) (keep_of E.f48) (af_cons (pf_v (pv 3)) af_nil))) (zs_cons (z_set (i := 6) sc.nd rfl (Or.inl rfl) (pf_op of_sub (pf_op of_mod (pf_ixV (pv 1) pf_int) pf_int) pf_int)) (zs_cons (z_set (i := 7) sc.nd rfl (Or.inl rfl) (pf_call (kf_fn G__law_values (hr.mono (by decide)) b__law_values_2 tk) rfl (glo_of E.X E.G E.f52) (keep_of E.f52) (af_cons (pf_v (pv 2)) (af_cons pf_int af_nil)))) (zs_cons (z_set (i := 8) sc.nd rfl (Or.inl rfl) (pf_call (kf_fn G__law_values (hr.mono (by decide)) b__law_values_2 tk) rfl (glo_of E.X E.G E.f52) (keep_of E.f52) (af_cons (pf_v (pv 3)) (af_cons pf_int af_nil)))) (zs_cons (z_set (i := 9) sc.nd rfl (Or.inl rfl) pf_bl) (zs_cons (z_if (tf_cmp of_ge (pf_v (pv 6)) pf_int (by rfl)) (zs_cons (z_set (i := 9) sc.nd rfl (Or.inl rfl) (pf_cmp of_ne (pf_op of_mul (pf_ix (pf_ixV (pv 7) pf_int) (pf_v (pv 6))) (pf_ix (pf_ixV (pv 8) pf_int) (pf_v (pv 6)))) (pf_op of_mul (pf_ix (pf_ixV (pv 8) pf_int) (pf_v (pv 6))) (pf_ix (pf_ixV (pv 7) pf_int) (pf_v (pv 6)))) (by rfl))) (zs_cons (z_for hp rfl (if_range1 rfl (free_of E.X E.G E.f1) (af_cons (pf_v (pv 6)) af_nil)) (gf_name (i := 10) sc.nd rfl (Or.inl rfl)) (zs_cons (z_if (tf_cmp of_ne (pf_op of_mul (pf_ix (pf_ixV (pv 7) pf_int) (pf_v (pv 10))) (pf_ix (pf_ixV (pv 8) pf_int) (pf_v (pv 10)))) (pf_op of_mul (pf_ix (pf_ixV (pv 8) pf_int) (pf_v (pv 10))) (pf_ix (pf_ixV (pv 7) pf_int) (pf_v (pv 10)))) (by rfl)) (zs_cons (z_set (i := 9) sc.nd rfl (Or.inl rfl) pf_bl) zs_nil) zs_nil) zs_nil)) zs_nil)) zs_nil) (zs_cons (z_set (i := 11) sc.nd rfl (Or.inl rfl) (pf_call (kf_fn G_accepts_rows (hr.mono (by decide)) b_accepts_rows_3 tk) rfl (glo_of E.X E.G E.f64) (keep_of E.f64) (af_cons (pf_v (pv 4)) (af_cons (pf_v (pv 5)) (af_cons (pf_tup (af_cons pf_str (af_cons (pf_v (pv 6)) af_nil))) af_nil))))) (zs_cons (z_if (tf_w (wf_or (tf_not (tf_val (pf_isT (n := "bool") (cs := [0, 1, 2, 3, 4, 5]) (by decide) E.insOk (isT_of (by rfl) E.f65) (pf_v (pv 11)) rfl (free_of E.X E.G E.f66) bt_bool rfl (free_of E.X E.G E.f61) bt_isinstance))) (wf_or1 (tf_cmp of_ne (pf_v (pv 11)) (pf_v (pv 9)) (by rfl))))) (zs_cons (z_ret pf_bl) zs_nil) zs_nil) (zs_cons (z_ret (pf_and (pf_cmp of_isB (pf_call (kf_fn G_accepts_rows (hr.mono (by decide)) b_accepts_rows_3 tk) rfl (glo_of E.X E.G E.f64) (keep_of E.f64) (af_cons (pf_v (pv 4)) (af_cons (pf_v (pv 4)) (af_cons (pf_tup (af_cons pf_str (af_cons (pf_callB (cf_max2 rfl) rfl (free_of E.X E.G E.f12) bt_max (af_cons (pf_v (pv 6)) (af_cons pf_int af_nil))) af_nil))) af_nil)))) pf_bl (by rfl)) (pf_one (pf_call (kf_fn G__law_refuses_others (hr.mono (by decide)) b__law_refuses_others_2 tk) rfl (glo_of E.X E.G E.f79) (keep_of E.f79) (af_cons (pf_v (pv 4)) (af_cons (pf_v (pv 5)) af_nil)))))) zs_nil))))))))))))))
end K74
namespace K74
open PySem PySem.Spec PyProof.Rows L2 Ce
/-! ### Fraction -/
theorem init_run (n d : Int) (h : d ≠ 0) {k : Nat} (hb : nb d k) (hk : k < 9000) : ∃ ρ, m_FractionD_initD [some (.oi 0 []), some (.im (.int n)), some (.im (.int d))] = .ok .non (some (.oi 0 [.int (Rat.divInt n d).num, .int (Rat.divInt n d).den]) :: ρ) := by
  have e1 : divOk (sgcd n d) = true := divOk_nb (sgcd_ne h) (sgcd_nb h hb) hk
  rw [← frac_num h, ← frac_den h]
  by_cases hd : d < 0
  · have e2 : sgcd n d = -((Nat.gcd n.natAbs d.natAbs : Nat) : Int) := if_pos hd
    rw [e2] at e1 ⊢
    simp [m_FractionD_initD, mOf, b_FractionD_initD, sCons, sIf, tst, op2, rd, cst, sEq, seq, opt, Out.bind, Out.st, SOut.sq, sNil, sSet, cl1, aC, aN, k2, h, hd, iLt, ii, iNeg, sFldS, ft_num, ft_den, iDiv, e1, putD, argE, List.mapIdx, List.mapIdx.go]
  · have e2 : sgcd n d = ((Nat.gcd n.natAbs d.natAbs : Nat) : Int) := if_neg hd
    rw [e2] at e1 ⊢
    simp [m_FractionD_initD, mOf, b_FractionD_initD, sCons, sIf, tst, op2, rd, cst, sEq, seq, opt, Out.bind, Out.st, SOut.sq, sNil, sSet, cl1, aC, aN, k2, h, hd, iLt, ii, iNeg, sFldS, ft_num, ft_den, iDiv, e1, putD, argE, List.mapIdx, List.mapIdx.go]
theorem mk_run (n d : Int) (h : d ≠ 0) {k : Nat} (hb : nb d k) (hk : k < 9000) (ρ : En) : mkM 0 2 3 [] m_FractionD_initD [.int n, .int d] ρ = .ok (fr (Rat.divInt n d)) ρ := by
  obtain ⟨ρ', e⟩ := init_run n d h hb hk
  simp [mkM, onMk, e, fr]
theorem mk1_run (n : Int) (ρ : En) : mkM 0 2 3 [.int 1] m_FractionD_initD [.int n] ρ = .ok (fr n) ρ := by
  obtain ⟨ρ', e⟩ := init_run n 1 (by decide) (k := 0) (by unfold nb; decide) (by omega)
  rw [divInt_one] at e
  simp [mkM, onMk, e, fr]
theorem add_run (p q : Rat) {a d b e : Nat} (hp : qb p a d) (hq : qb q b e) (l1 : a + e < 9000) (l2 : b + d < 9000) (l3 : d + e < 9000) (ρ : En) : fnM 2 [] m_FractionD_addD [fr p, fr q] ρ = .ok (fr (p + q)) ρ := by
  have m1 := mulOk_nb hp.1 hq.2 (by omega)
  have m2 := mulOk_nb hq.1 hp.2 (by omega)
  have m3 := mulOk_nb hp.2 hq.2 (by omega)
  have z := mk_run (p.num * q.den + q.num * p.den) (p.den * q.den) (Int.mul_ne_zero (den_ne p) (den_ne q)) (hp.2.mul hq.2) l3
  rw [add_divInt] at z
  simp [fnM, onD, m_FractionD_addD, mOf, b_FractionD_addD, sCons, sRet, cl1, aC, aN, op2, fld, rd, fr, ft_num, ft_den, Out.bind, Out.st, SOut.sq, opt, iAdd, iMul, ii, m1, m2, m3, z]
theorem mul_run (p q : Rat) {a d b e : Nat} (hp : qb p a d) (hq : qb q b e) (l1 : a + b < 9000) (l3 : d + e < 9000) (ρ : En) : fnM 2 [] m_FractionD_mulD [fr p, fr q] ρ = .ok (fr (p * q)) ρ := by
  have m1 := mulOk_nb hp.1 hq.1 (by omega)
  have m3 := mulOk_nb hp.2 hq.2 (by omega)
  have z := mk_run (p.num * q.num) (p.den * q.den) (Int.mul_ne_zero (den_ne p) (den_ne q)) (hp.2.mul hq.2) l3
  rw [mul_divInt] at z
  simp [fnM, onD, m_FractionD_mulD, mOf, b_FractionD_mulD, sCons, sRet, cl1, aC, aN, op2, fld, rd, fr, ft_num, ft_den, Out.bind, Out.st, SOut.sq, opt, iMul, ii, m1, m3, z]
theorem neg_run (p : Rat) {a d : Nat} (hp : qb p a d) (l : d < 9000) (ρ : En) : fnM 1 [] m_FractionD_negD [fr p] ρ = .ok (fr (-p)) ρ := by
  have z := mk_run (-p.num) p.den (den_ne p) hp.2 l
  rw [neg_divInt] at z
  simp [fnM, onD, m_FractionD_negD, mOf, b_FractionD_negD, sCons, sRet, cl1, aC, aN, iNeg, fld, rd, fr, ft_num, ft_den, Out.bind, Out.st, SOut.sq, opt, z]
theorem over_run (p q : Rat) (h : q ≠ 0) {a d b e : Nat} (hp : qb p a d) (hq : qb q b e) (l1 : a + e < 9000) (l3 : d + b < 9000) (ρ : En) : fnM 2 [] m_Fraction_over [fr p, fr q] ρ = .ok (fr (p / q)) ρ := by
  have m1 := mulOk_nb hp.1 hq.2 (by omega)
  have m3 := mulOk_nb hp.2 hq.1 (by omega)
  have hn := num_ne h
  have z := mk_run (p.num * q.den) (p.den * q.num) (Int.mul_ne_zero (den_ne p) hn) (hp.2.mul hq.1) l3
  rw [div_divInt p q h] at z
  simp [fnM, onD, m_Fraction_over, mOf, b_Fraction_over, sCons, sIf, tst, sEq, seq, cst, sNil, sRet, cl1, aC, aN, op2, fld, rd, fr, ft_num, ft_den, Out.bind, Out.st, SOut.sq, opt, iMul, ii, m1, m3, hn, z]
theorem eq_run (p q : Rat) : qOwn 0 m_FractionD_eqD (fr p) (fr q) = some (decide (p = q)) := by
  by_cases h1 : p.num = q.num
  · by_cases h2 : p.den = q.den
    · have e : p = q := Rat.ext h1 h2
      subst e
      simp [qOwn, fr, m_FractionD_eqD, mOf, b_FractionD_eqD, sCons, sRet, vAnd2, isi1, kIsC, rd, op2, fld, ft_num, ft_den, sEq, seq, opt, Out.bind, Out.st, SOut.sq]
    · have e : p ≠ q := fun z => h2 (by rw [z])
      have h2' : ¬ (p.den : Int) = q.den := fun z => h2 (by exact_mod_cast z)
      simp [qOwn, fr, m_FractionD_eqD, mOf, b_FractionD_eqD, sCons, sRet, vAnd2, isi1, kIsC, rd, op2, fld, ft_num, ft_den, sEq, seq, opt, Out.bind, Out.st, SOut.sq, h1, h2, h2', e]
  · have e : p ≠ q := fun z => h1 (by rw [z])
    simp [qOwn, fr, m_FractionD_eqD, mOf, b_FractionD_eqD, sCons, sRet, vAnd2, isi1, kIsC, rd, op2, fld, ft_num, ft_den, sEq, seq, opt, Out.bind, Out.st, SOut.sq, h1, e]
end K74
namespace K74
open PySem PySem.Spec PyProof.Rows L2 Ce
theorem refl_x : Refl (qOwn 0 m_FractionD_eqD) := by
  intro d b h
  cases d <;> try (simp [qOwn] at h; done)
  rename_i c xs
  by_cases hc : c = 0
  · subst hc
    cases e0 : xs[0]? with
    | none => simp [qOwn, m_FractionD_eqD, mOf, b_FractionD_eqD, sCons, sRet, vAnd2, isi1, kIsC, rd, op2, fld, ft_num, ft_den, sEq, opt, Out.bind, Out.st, SOut.sq, e0] at h
    | some x =>
      cases s0 : seq x x with
      | none => simp [qOwn, m_FractionD_eqD, mOf, b_FractionD_eqD, sCons, sRet, vAnd2, isi1, kIsC, rd, op2, fld, ft_num, ft_den, sEq, opt, Out.bind, Out.st, SOut.sq, e0, s0] at h
      | some b0 =>
        have t0 := seq_refl x b0 s0
        subst t0
        cases e1 : xs[1]? with
        | none => simp [qOwn, m_FractionD_eqD, mOf, b_FractionD_eqD, sCons, sRet, vAnd2, isi1, kIsC, rd, op2, fld, ft_num, ft_den, sEq, opt, Out.bind, Out.st, SOut.sq, e0, s0, e1] at h
        | some y =>
          cases s1 : seq y y with
          | none => simp [qOwn, m_FractionD_eqD, mOf, b_FractionD_eqD, sCons, sRet, vAnd2, isi1, kIsC, rd, op2, fld, ft_num, ft_den, sEq, opt, Out.bind, Out.st, SOut.sq, e0, s0, e1, s1] at h
          | some b1 =>
            have t1 := seq_refl y b1 s1
            subst t1
            simp [qOwn, m_FractionD_eqD, mOf, b_FractionD_eqD, sCons, sRet, vAnd2, isi1, kIsC, rd, op2, fld, ft_num, ft_den, sEq, opt, Out.bind, Out.st, SOut.sq, e0, s0, e1, s1] at h
            exact h
  · simp [qOwn, hc] at h
/-! ### polynomials -/
def poly (cs : List Int) : D := .ins 1 [.tup (cs.map D.int), .int 1]
/-- the value of a list of coefficients -/
def hv (cs : List Int) (k : Int) : Int := cs.foldr (fun c t => t * k + c) 0
def small (cs : List Int) : Prop := cs = [] ∨ (∃ a, cs = [a] ∧ nb a 5) ∨ ∃ a b, cs = [a, b] ∧ nb a 5 ∧ nb b 5
theorem at_run (cs : List Int) (h : small cs) (k : Int) (hk : nb k 5) (ρ : En) : fnM 2 [] m_Poly_at [poly cs, .int k] ρ = .ok (fr (hv cs k)) ρ := by
  have z := fun n => mk_run n 1 (by decide) (k := 0) (by unfold nb; decide) (by omega)
  simp only [divInt_one] at z
  have m0 : mulOk 0 k = true := mulOk_nb (a := 0) (by unfold nb; decide) hk (by omega)
  rcases h with rfl | ⟨a, rfl, ha⟩ | ⟨a, b, rfl, ha, hb⟩
  · simp [fnM, onD, m_Poly_at, mOf, b_Poly_at, poly, sCons, sSet, sFor, itRev, fld, rd, ft_coefs, ft_den, gN, forL, sNil, sRet, cl1, aC, aN, cst, opt, Out.bind, Out.st, SOut.sq, hv, z]
  · simp [fnM, onD, m_Poly_at, mOf, b_Poly_at, poly, sCons, sSet, sFor, itRev, fld, rd, ft_coefs, ft_den, gN, forL, sNil, sRet, cl1, aC, aN, cst, opt, Out.bind, Out.st, SOut.sq, hv, z, op2, iAdd, iMul, ii, m0]
  · have m1 : mulOk b k = true := mulOk_nb hb hk (by omega)
    simp [fnM, onD, m_Poly_at, mOf, b_Poly_at, poly, sCons, sSet, sFor, itRev, fld, rd, ft_coefs, ft_den, gN, forL, sNil, sRet, cl1, aC, aN, cst, opt, Out.bind, Out.st, SOut.sq, hv, z, op2, iAdd, iMul, ii, m0, m1]
end K74
namespace K74
open PySem PySem.Spec PyProof.Rows L2 Ce
/-! ### operators -/
def opD (ps : List (List Int)) : D := .ins 4 [.tup (ps.map poly)]
def rowD (ps : List (List Int)) (ini : List Rat) : D := .ins 5 [opD ps, .tup (ini.map fr)]
theorem order_run (ps : List (List Int)) (hl : ps.length < 1000) : m_Operator_order [some (.im (opD ps))] = .ok (.int (ps.length - 1)) [some (.im (opD ps))] := by
  simp [m_Operator_order, mOf, b_Operator_order, opD, sCons, sRet, op2, cl1, aC, aN, fld, ft_coefs, rd, kLen, cst, iSub, ii, opt, Out.bind, Out.st, SOut.sq, argE, List.mapIdx, List.mapIdx.go]
theorem part10 (p q : List Int) (ρ : En) : fnM 2 [] m_Operator_part [opD [p, q], .int 0] ρ = .ok (poly p) ρ := by kernel_rfl
theorem part20 (p q r : List Int) (ρ : En) : fnM 2 [] m_Operator_part [opD [p, q, r], .int 0] ρ = .ok (poly p) ρ := by kernel_rfl
theorem part21 (p q r : List Int) (ρ : En) : fnM 2 [] m_Operator_part [opD [p, q, r], .int 1] ρ = .ok (poly q) ρ := by kernel_rfl
theorem lead1 (p q : List Int) (ρ : En) : onV m_Operator_lead [opD [p, q]] ρ = .ok (poly q) ρ := by kernel_rfl
theorem lead2 (p q r : List Int) (ρ : En) : onV m_Operator_lead [opD [p, q, r]] ρ = .ok (poly r) ρ := by kernel_rfl
theorem order1 (p q : List Int) (ρ : En) : onV m_Operator_order [opD [p, q]] ρ = .ok (.int 1) ρ := by kernel_rfl
theorem order2 (p q r : List Int) (ρ : En) : onV m_Operator_order [opD [p, q, r]] ρ = .ok (.int 2) ρ := by kernel_rfl
theorem refuses (o o' : D) (i i' : List D) (ρ : En) : fnM 2 [] m__law_refuses_others [.ins 5 [o, .tup i], .ins 5 [o', .tup i']] ρ = .ok (.bl true) ρ := by kernel_rfl
end K74
namespace K74
open PySem PySem.Spec PyProof.Rows L2 Ce
/-! ### prefix -/
def bP : En → SOut := (sCons (sSet 5 (op2 iSub (rd 4) (rd 3))) (sCons (sSet 6 (cl1 (mkM 0 2 3 [.int 1] m_FractionD_initD) (aC (cst (.int 0)) aN))) (sCons (sFor (itR1 (aC (rd 3) aN)) (gN 7) (sCons (sSet 6 (bin2 0 (fnM 2 [] m_FractionD_addD) (rd 6) (bin2 0 (fnM 2 [] m_FractionD_mulD) (mt 1 (fnM 2 [] m_Poly_at) (mt 4 (fnM 2 [] m_Operator_part) (fld ft_operator (rd 0)) (aC (rd 7) aN)) (aC (rd 5) aN)) (ixV 2 (op2 iAdd (rd 5) (rd 7)))))) sNil)) (sCons (sApp 2 (neg1 0 (fnM 1 [] m_FractionD_negD) (mt 0 (fnM 2 [] m_Fraction_over) (rd 6) (aC (mt 1 (fnM 2 [] m_Poly_at) (prp 4 m_Operator_lead (fld ft_operator (rd 0))) (aC (rd 5) aN)) aN)))) sNil))))
def st1 (p q : List Int) (l : List Rat) : List Rat := l ++ [-((0 + (hv p (l.length - 1 : Nat) : Int) * l.getD (l.length - 1) 0) / (hv q (l.length - 1 : Nat) : Int))]
theorem nb_hv {cs : List Int} {k : Int} (h : small cs) (hk : nb k 5) : nb (hv cs k) 11 := by
  rcases h with rfl | ⟨a, rfl, ha⟩ | ⟨a, b, rfl, ha, hb⟩
  · unfold nb hv; exact Nat.zero_le _
  · simp [hv]; exact ha.mono (by omega)
  · simp [hv]
    exact ((hb.mul hk).add (ha.mono (by omega))).mono (by omega)
theorem body1 (p q : List Int) (hp : small p) (hq : small q) (ini l : List Rat) (n : Nat) (hl : l.length = n + 1) (hn : n < 32) (v : Rat) (ev : l[n]? = some v) {a d : Nat} (hb : qb v a d) (l1 : a < 4000) (l2 : d < 4000) (hz : hv q n ≠ 0) (c : Option O) (x5 x6 x7 : Option O) :
    ∃ y5 y6 y7, bP [some (.im (rowD [p, q] ini)), c, some (.ol (l.map fr)), some (.im (.int 1)), some (.im (.int (n + 1 : Nat))), x5, x6, x7] = .nx [some (.im (rowD [p, q] ini)), c, some (.ol ((st1 p q l).map fr)), some (.im (.int 1)), some (.im (.int (n + 1 : Nat))), y5, y6, y7] := by
  have hk : nb (n : Int) 5 := by unfold nb; omega
  have b1 := qb_int (nb_hv hp hk)
  have b2 := qb_int (nb_hv hq hk)
  have b0 : qb (0 : Rat) 0 0 := ⟨by unfold nb; decide, by unfold nb; decide⟩
  have e1 := fun ρ => at_run p hp n hk ρ
  have e2 := fun ρ => at_run q hq n hk ρ
  have e3 := fun ρ => mul_run _ v b1 hb (by omega) (by omega) ρ
  have b3 := qb_mul b1 hb
  have e4 := fun ρ => add_run 0 _ b0 b3 (by omega) (by omega) (by omega) ρ
  have b4 := qb_add b0 b3 (c := 11 + a + d) (by omega) (by omega)
  have hz' : ((hv q n : Int) : Rat) ≠ 0 := by
    intro z
    exact hz (by exact_mod_cast z)
  have e5 := fun ρ => over_run _ _ hz' b4 b2 (by omega) (by omega) ρ
  have b5 := qb_div b4 b2 hz'
  have e6 := fun ρ => neg_run _ b5 (by omega) ρ
  have m1 := mk1_run 0
  have i0 : L2.atI (l.map fr) (n : Int) = some (fr v) := by rw [Ce.atI_nat]; simp [ev]
  have hs : l.length < sizeLine := by rw [sizeLine_eq]; omega
  -- the turn of the inner loop, at slots that it keeps
  have turn : ∀ x7 : Option O, (sFor (itR1 (aC (rd 3) aN)) (gN 7) (sCons (sSet 6 (bin2 0 (fnM 2 [] m_FractionD_addD) (rd 6) (bin2 0 (fnM 2 [] m_FractionD_mulD) (mt 1 (fnM 2 [] m_Poly_at) (mt 4 (fnM 2 [] m_Operator_part) (fld ft_operator (rd 0)) (aC (rd 7) aN)) (aC (rd 5) aN)) (ixV 2 (op2 iAdd (rd 5) (rd 7)))))) sNil))
      [some (.im (rowD [p, q] ini)), c, some (.ol (l.map fr)), some (.im (.int 1)), some (.im (.int (n + 1 : Nat))), some (.im (.int n)), some (.im (fr 0)), x7] =
      .nx [some (.im (rowD [p, q] ini)), c, some (.ol (l.map fr)), some (.im (.int 1)), some (.im (.int (n + 1 : Nat))), some (.im (.int n)), some (.im (fr (0 + (hv p n : Int) * v))), some (.im (.int 0))] := by
    intro x7
    generalize hρ : ([some (.im (rowD [p, q] ini)), c, some (.ol (l.map fr)), some (.im (.int 1)), some (.im (.int (n + 1 : Nat))), some (.im (.int n)), some (.im (fr 0)), some (.im (.int 0))] : En) = ρ
    have s1 : mt 4 (fnM 2 [] m_Operator_part) (fld ft_operator (rd 0)) (aC (rd 7) aN) ρ = .ok (poly p) ρ := by
      subst hρ
      exact part10 p q _
    have s2 : mt 1 (fnM 2 [] m_Poly_at) (mt 4 (fnM 2 [] m_Operator_part) (fld ft_operator (rd 0)) (aC (rd 7) aN)) (aC (rd 5) aN) ρ = .ok (fr (hv p n : Int)) ρ := by
      unfold Ce.mt at s1 ⊢
      rw [s1]
      subst hρ
      exact e1 _
    have s3 : ixV 2 (op2 iAdd (rd 5) (rd 7)) ρ = .ok (fr v) ρ := by
      subst hρ
      simp [ixV, vw, op2, rd, iAdd, ii, opt, Out.bind, i0]
    have s4 : bin2 0 (fnM 2 [] m_FractionD_mulD) (mt 1 (fnM 2 [] m_Poly_at) (mt 4 (fnM 2 [] m_Operator_part) (fld ft_operator (rd 0)) (aC (rd 7) aN)) (aC (rd 5) aN)) (ixV 2 (op2 iAdd (rd 5) (rd 7))) ρ = .ok (fr ((hv p n : Int) * v)) ρ := by
      unfold bin2
      rw [s2]
      simp only [Out.bind]
      rw [s3]
      exact e3 ρ
    have s5 : bin2 0 (fnM 2 [] m_FractionD_addD) (rd 6) (bin2 0 (fnM 2 [] m_FractionD_mulD) (mt 1 (fnM 2 [] m_Poly_at) (mt 4 (fnM 2 [] m_Operator_part) (fld ft_operator (rd 0)) (aC (rd 7) aN)) (aC (rd 5) aN)) (ixV 2 (op2 iAdd (rd 5) (rd 7)))) ρ = .ok (fr (0 + (hv p n : Int) * v)) ρ := by
      have r6 : rd 6 ρ = .ok (fr 0) ρ := by subst hρ; rfl
      rw [bin2]
      rw [r6]
      simp only [Out.bind]
      rw [s4]
      exact e4 ρ
    have s6 : (sCons (sSet 6 (bin2 0 (fnM 2 [] m_FractionD_addD) (rd 6) (bin2 0 (fnM 2 [] m_FractionD_mulD) (mt 1 (fnM 2 [] m_Poly_at) (mt 4 (fnM 2 [] m_Operator_part) (fld ft_operator (rd 0)) (aC (rd 7) aN)) (aC (rd 5) aN)) (ixV 2 (op2 iAdd (rd 5) (rd 7)))))) sNil) ρ = .nx (ρ.set 6 (some (.im (fr (0 + (hv p n : Int) * v))))) := by
      unfold sCons sSet
      rw [s5]
      rfl
    have f1 : itR1 (aC (rd 3) aN) [some (.im (rowD [p, q] ini)), c, some (.ol (l.map fr)), some (.im (.int 1)), some (.im (.int (n + 1 : Nat))), some (.im (.int n)), some (.im (fr 0)), x7] = .ok [.int 0] [some (.im (rowD [p, q] ini)), c, some (.ol (l.map fr)), some (.im (.int 1)), some (.im (.int (n + 1 : Nat))), some (.im (.int n)), some (.im (fr 0)), x7] := by rfl
    unfold sFor
    rw [f1]
    simp only [Out.st, forL, gN]
    rw [show ([some (.im (rowD [p, q] ini)), c, some (.ol (l.map fr)), some (.im (.int 1)), some (.im (.int (n + 1 : Nat))), some (.im (.int n)), some (.im (fr 0)), x7] : En).set 7 (some (.im (.int 0))) = ρ from hρ, s6]
    subst hρ
    rfl
  have app : ∀ (ρ : En), ρ = [some (.im (rowD [p, q] ini)), c, some (.ol (l.map fr)), some (.im (.int 1)), some (.im (.int (n + 1 : Nat))), some (.im (.int n)), some (.im (fr (0 + (hv p n : Int) * v))), some (.im (.int 0))] →
      sApp 2 (neg1 0 (fnM 1 [] m_FractionD_negD) (Ce.mt 0 (fnM 2 [] m_Fraction_over) (rd 6) (aC (Ce.mt 1 (fnM 2 [] m_Poly_at) (prp 4 m_Operator_lead (fld ft_operator (rd 0))) (aC (rd 5) aN)) aN))) ρ = .nx (ρ.set 2 (some (.ol (l.map fr ++ [fr (-((0 + (hv p n : Int) * v) / (hv q n : Int)))])))) := by
    intro ρ hρ
    have s1 : prp 4 m_Operator_lead (fld ft_operator (rd 0)) ρ = .ok (poly q) ρ := by
      subst hρ
      exact lead1 p q _
    have s2 : Ce.mt 1 (fnM 2 [] m_Poly_at) (prp 4 m_Operator_lead (fld ft_operator (rd 0))) (aC (rd 5) aN) ρ = .ok (fr (hv q n : Int)) ρ := by
      unfold Ce.mt
      rw [s1]
      subst hρ
      exact e2 _
    have s3 : aC (Ce.mt 1 (fnM 2 [] m_Poly_at) (prp 4 m_Operator_lead (fld ft_operator (rd 0))) (aC (rd 5) aN)) aN ρ = .ok [fr (hv q n : Int)] ρ := by
      unfold aC at s2 ⊢
      rw [s2]
      rfl
    have r6 : rd 6 ρ = .ok (fr (0 + (hv p n : Int) * v)) ρ := by subst hρ; rfl
    have s4 : Ce.mt 0 (fnM 2 [] m_Fraction_over) (rd 6) (aC (Ce.mt 1 (fnM 2 [] m_Poly_at) (prp 4 m_Operator_lead (fld ft_operator (rd 0))) (aC (rd 5) aN)) aN) ρ = .ok (fr ((0 + (hv p n : Int) * v) / (hv q n : Int))) ρ := by
      rw [Ce.mt]
      rw [r6]
      show Out.bind (aC (Ce.mt 1 (fnM 2 [] m_Poly_at) (prp 4 m_Operator_lead (fld ft_operator (rd 0))) (aC (rd 5) aN)) aN ρ) _ = _
      rw [s3]
      exact e5 ρ
    have s5 : neg1 0 (fnM 1 [] m_FractionD_negD) (Ce.mt 0 (fnM 2 [] m_Fraction_over) (rd 6) (aC (Ce.mt 1 (fnM 2 [] m_Poly_at) (prp 4 m_Operator_lead (fld ft_operator (rd 0))) (aC (rd 5) aN)) aN)) ρ = .ok (fr (-((0 + (hv p n : Int) * v) / (hv q n : Int)))) ρ := by
      unfold neg1
      rw [s4]
      exact e6 ρ
    have v2 : vw 2 ρ = .ok (l.map fr) ρ := by subst hρ; rfl
    have g2 : ρ[2]? = some (some (.ol (l.map fr))) := by subst hρ; rfl
    unfold sApp
    rw [v2]
    simp only [Out.st]
    rw [s5]
    simp only [g2, List.length_map, hs, decide_true, if_true]
  have gd : l.getD (l.length - 1) 0 = v := by
    rw [hl]
    simp [List.getD, ev]
  refine ⟨some (.im (.int n)), some (.im (fr (0 + (hv p n : Int) * v))), some (.im (.int 0)), ?_⟩
  have h5 : (sSet 5 (op2 iSub (rd 4) (rd 3))) [some (.im (rowD [p, q] ini)), c, some (.ol (l.map fr)), some (.im (.int 1)), some (.im (.int (n + 1 : Nat))), x5, x6, x7] = .nx [some (.im (rowD [p, q] ini)), c, some (.ol (l.map fr)), some (.im (.int 1)), some (.im (.int (n + 1 : Nat))), some (.im (.int n)), x6, x7] := by
    simp [sSet, op2, rd, iSub, ii, opt, Out.bind, Out.st]
  have h6 : (sSet 6 (cl1 (mkM 0 2 3 [.int 1] m_FractionD_initD) (aC (cst (.int 0)) aN))) [some (.im (rowD [p, q] ini)), c, some (.ol (l.map fr)), some (.im (.int 1)), some (.im (.int (n + 1 : Nat))), some (.im (.int n)), x6, x7] = .nx [some (.im (rowD [p, q] ini)), c, some (.ol (l.map fr)), some (.im (.int 1)), some (.im (.int (n + 1 : Nat))), some (.im (.int n)), some (.im (fr 0)), x7] := by
    unfold sSet cl1
    show Out.st (mkM 0 2 3 [.int 1] m_FractionD_initD [.int 0] _) _ = _
    rw [m1]
    rfl
  unfold bP
  rw [sCons_nx h5, sCons_nx h6, sCons_nx (turn x7), sCons_nx (app _ rfl)]
  have eL : (st1 p q l).map fr = l.map fr ++ [fr (-((0 + (hv p n : Int) * v) / (hv q n : Int)))] := by
    unfold st1
    rw [gd, hl]
    simp
  rw [eL]
  rfl
end K74
namespace K74
open PySem PySem.Spec PyProof.Rows L2 Ce
def st2 (p q r : List Int) (l : List Rat) : List Rat := l ++ [-((0 + (hv p (l.length - 2 : Nat) : Int) * l.getD (l.length - 2) 0 + (hv q (l.length - 2 : Nat) : Int) * l.getD (l.length - 1) 0) / (hv r (l.length - 2 : Nat) : Int))]
abbrev eT : En → Out D := bin2 0 (fnM 2 [] m_FractionD_addD) (rd 6) (bin2 0 (fnM 2 [] m_FractionD_mulD) (Ce.mt 1 (fnM 2 [] m_Poly_at) (Ce.mt 4 (fnM 2 [] m_Operator_part) (fld ft_operator (rd 0)) (aC (rd 7) aN)) (aC (rd 5) aN)) (ixV 2 (op2 iAdd (rd 5) (rd 7))))
theorem turnG {ps : List (List Int)} {ini l : List Rat} {c o i : Option O} {n j : Nat} {t v : Rat} {p : List Int} (hp : small p) (hn : n < 32) (hpart : ∀ ρ, fnM 2 [] m_Operator_part [opD ps, .int j] ρ = .ok (poly p) ρ) (ev : l[n + j]? = some v) {a d b e : Nat} (hb : qb v a d) (ht : qb t b e) (l1 : a < 4000) (l2 : d < 2000) (l3 : b < 4000) (l4 : e < 2000) :
    eT [some (.im (rowD ps ini)), c, some (.ol (l.map fr)), o, i, some (.im (.int n)), some (.im (fr t)), some (.im (.int j))] = .ok (fr (t + (hv p n : Int) * v)) [some (.im (rowD ps ini)), c, some (.ol (l.map fr)), o, i, some (.im (.int n)), some (.im (fr t)), some (.im (.int j))] := by
  have hk : nb (n : Int) 5 := by unfold nb; omega
  have b1 := qb_int (nb_hv hp hk)
  have b3 := qb_mul b1 hb
  have i0 : L2.atI (l.map fr) ((n : Int) + (j : Int)) = some (fr v) := by
    rw [← Int.natCast_add, Ce.atI_nat]
    simp [ev]
  generalize hρ : ([some (.im (rowD ps ini)), c, some (.ol (l.map fr)), o, i, some (.im (.int n)), some (.im (fr t)), some (.im (.int j))] : En) = ρ
  have s1 : Ce.mt 4 (fnM 2 [] m_Operator_part) (fld ft_operator (rd 0)) (aC (rd 7) aN) ρ = .ok (poly p) ρ := by
    subst hρ
    exact hpart _
  have s2 : Ce.mt 1 (fnM 2 [] m_Poly_at) (Ce.mt 4 (fnM 2 [] m_Operator_part) (fld ft_operator (rd 0)) (aC (rd 7) aN)) (aC (rd 5) aN) ρ = .ok (fr (hv p n : Int)) ρ := by
    rw [Ce.mt, s1]
    subst hρ
    exact at_run p hp n hk _
  have s3 : ixV 2 (op2 iAdd (rd 5) (rd 7)) ρ = .ok (fr v) ρ := by
    subst hρ
    simp [ixV, vw, op2, rd, iAdd, ii, opt, Out.bind, i0]
  have s4 : bin2 0 (fnM 2 [] m_FractionD_mulD) (Ce.mt 1 (fnM 2 [] m_Poly_at) (Ce.mt 4 (fnM 2 [] m_Operator_part) (fld ft_operator (rd 0)) (aC (rd 7) aN)) (aC (rd 5) aN)) (ixV 2 (op2 iAdd (rd 5) (rd 7))) ρ = .ok (fr ((hv p n : Int) * v)) ρ := by
    rw [bin2, s2]
    simp only [Out.bind]
    rw [s3]
    exact mul_run _ v b1 hb (by omega) (by omega) ρ
  have r6 : rd 6 ρ = .ok (fr t) ρ := by subst hρ; rfl
  rw [eT, bin2, r6]
  simp only [Out.bind]
  rw [s4]
  exact add_run t _ ht b3 (by omega) (by omega) (by omega) ρ
theorem body2 (p q r : List Int) (hp : small p) (hq : small q) (hr : small r) (ini l : List Rat) (n : Nat) (hl : l.length = n + 2) (hn : n < 32) (v u : Rat) (ev : l[n]? = some v) (eu : l[n + 1]? = some u) {a d : Nat} (hb : qb v a d) (hb' : qb u a d) (l1 : a < 1000) (l2 : d < 1000) (hz : hv r n ≠ 0) (c : Option O) (x5 x6 x7 : Option O) :
    ∃ y5 y6 y7, bP [some (.im (rowD [p, q, r] ini)), c, some (.ol (l.map fr)), some (.im (.int 2)), some (.im (.int (n + 2 : Nat))), x5, x6, x7] = .nx [some (.im (rowD [p, q, r] ini)), c, some (.ol ((st2 p q r l).map fr)), some (.im (.int 2)), some (.im (.int (n + 2 : Nat))), y5, y6, y7] := by
  have hk : nb (n : Int) 5 := by unfold nb; omega
  have b2 := qb_int (nb_hv hr hk)
  have b0 : qb (0 : Rat) 0 0 := ⟨by unfold nb; decide, by unfold nb; decide⟩
  have b3 := qb_mul (qb_int (nb_hv hp hk)) hb
  have b3' := qb_mul (qb_int (nb_hv hq hk)) hb'
  have b4 := qb_add b0 b3 (c := 11 + a + d) (by omega) (by omega)
  have b4' := qb_add b4 b3' (c := 24 + a + a + d + d) (by omega) (by omega)
  have hz' : ((hv r n : Int) : Rat) ≠ 0 := by
    intro z
    exact hz (by exact_mod_cast z)
  have b5 := qb_div b4' b2 hz'
  have m1 := mk1_run 0
  have hs : l.length < sizeLine := by rw [sizeLine_eq]; omega
  have t0 := fun x : Option O => turnG (ps := [p, q, r]) (ini := ini) (l := l) (c := c) (o := some (.im (.int 2))) (i := some (.im (.int (n + 2 : Nat)))) (n := n) (j := 0) (t := 0) (v := v) hp hn (part20 p q r) ev hb b0 (by omega) (by omega) (by omega) (by omega)
  have t1 := turnG (ps := [p, q, r]) (ini := ini) (l := l) (c := c) (o := some (.im (.int 2))) (i := some (.im (.int (n + 2 : Nat)))) (n := n) (j := 1) (t := 0 + (hv p n : Int) * v) (v := u) hq hn (part21 p q r) eu hb' b4 (by omega) (by omega) (by omega) (by omega)
  have turn : (sFor (itR1 (aC (rd 3) aN)) (gN 7) (sCons (sSet 6 eT) sNil))
      [some (.im (rowD [p, q, r] ini)), c, some (.ol (l.map fr)), some (.im (.int 2)), some (.im (.int (n + 2 : Nat))), some (.im (.int n)), some (.im (fr 0)), x7] =
      .nx [some (.im (rowD [p, q, r] ini)), c, some (.ol (l.map fr)), some (.im (.int 2)), some (.im (.int (n + 2 : Nat))), some (.im (.int n)), some (.im (fr (0 + (hv p n : Int) * v + (hv q n : Int) * u))), some (.im (.int 1))] := by
    have f1 : itR1 (aC (rd 3) aN) [some (.im (rowD [p, q, r] ini)), c, some (.ol (l.map fr)), some (.im (.int 2)), some (.im (.int (n + 2 : Nat))), some (.im (.int n)), some (.im (fr 0)), x7] = .ok [.int 0, .int 1] [some (.im (rowD [p, q, r] ini)), c, some (.ol (l.map fr)), some (.im (.int 2)), some (.im (.int (n + 2 : Nat))), some (.im (.int n)), some (.im (fr 0)), x7] := by rfl
    have z0 : (sCons (sSet 6 eT) sNil) [some (.im (rowD [p, q, r] ini)), c, some (.ol (l.map fr)), some (.im (.int 2)), some (.im (.int (n + 2 : Nat))), some (.im (.int n)), some (.im (fr 0)), some (.im (.int 0))] = .nx [some (.im (rowD [p, q, r] ini)), c, some (.ol (l.map fr)), some (.im (.int 2)), some (.im (.int (n + 2 : Nat))), some (.im (.int n)), some (.im (fr (0 + (hv p n : Int) * v))), some (.im (.int 0))] := by
      unfold sCons sSet
      have z := t0 none
      rw [show (((0 : Nat) : Int)) = 0 from rfl] at z
      rw [z]
      rfl
    have z1 : (sCons (sSet 6 eT) sNil) [some (.im (rowD [p, q, r] ini)), c, some (.ol (l.map fr)), some (.im (.int 2)), some (.im (.int (n + 2 : Nat))), some (.im (.int n)), some (.im (fr (0 + (hv p n : Int) * v))), some (.im (.int 1))] = .nx [some (.im (rowD [p, q, r] ini)), c, some (.ol (l.map fr)), some (.im (.int 2)), some (.im (.int (n + 2 : Nat))), some (.im (.int n)), some (.im (fr (0 + (hv p n : Int) * v + (hv q n : Int) * u))), some (.im (.int 1))] := by
      unfold sCons sSet
      rw [show (((1 : Nat) : Int)) = 1 from rfl] at t1
      rw [t1]
      rfl
    unfold sFor
    rw [f1]
    simp only [Out.st, forL, gN, List.set_cons_succ, List.set_cons_zero]
    rw [z0]
    simp only [List.set_cons_succ, List.set_cons_zero]
    rw [z1]
  have app : ∀ (ρ : En), ρ = [some (.im (rowD [p, q, r] ini)), c, some (.ol (l.map fr)), some (.im (.int 2)), some (.im (.int (n + 2 : Nat))), some (.im (.int n)), some (.im (fr (0 + (hv p n : Int) * v + (hv q n : Int) * u))), some (.im (.int 1))] →
      sApp 2 (neg1 0 (fnM 1 [] m_FractionD_negD) (Ce.mt 0 (fnM 2 [] m_Fraction_over) (rd 6) (aC (Ce.mt 1 (fnM 2 [] m_Poly_at) (prp 4 m_Operator_lead (fld ft_operator (rd 0))) (aC (rd 5) aN)) aN))) ρ = .nx (ρ.set 2 (some (.ol (l.map fr ++ [fr (-((0 + (hv p n : Int) * v + (hv q n : Int) * u) / (hv r n : Int)))])))) := by
    intro ρ hρ
    have s1 : prp 4 m_Operator_lead (fld ft_operator (rd 0)) ρ = .ok (poly r) ρ := by
      subst hρ
      exact lead2 p q r _
    have s2 : Ce.mt 1 (fnM 2 [] m_Poly_at) (prp 4 m_Operator_lead (fld ft_operator (rd 0))) (aC (rd 5) aN) ρ = .ok (fr (hv r n : Int)) ρ := by
      rw [Ce.mt, s1]
      subst hρ
      exact at_run r hr n hk _
    have s3 : aC (Ce.mt 1 (fnM 2 [] m_Poly_at) (prp 4 m_Operator_lead (fld ft_operator (rd 0))) (aC (rd 5) aN)) aN ρ = .ok [fr (hv r n : Int)] ρ := by
      rw [aC, s2]
      rfl
    have r6 : rd 6 ρ = .ok (fr (0 + (hv p n : Int) * v + (hv q n : Int) * u)) ρ := by subst hρ; rfl
    have s4 : Ce.mt 0 (fnM 2 [] m_Fraction_over) (rd 6) (aC (Ce.mt 1 (fnM 2 [] m_Poly_at) (prp 4 m_Operator_lead (fld ft_operator (rd 0))) (aC (rd 5) aN)) aN) ρ = .ok (fr ((0 + (hv p n : Int) * v + (hv q n : Int) * u) / (hv r n : Int))) ρ := by
      rw [Ce.mt, r6]
      show Out.bind (aC (Ce.mt 1 (fnM 2 [] m_Poly_at) (prp 4 m_Operator_lead (fld ft_operator (rd 0))) (aC (rd 5) aN)) aN ρ) _ = _
      rw [s3]
      exact over_run _ _ hz' b4' b2 (by omega) (by omega) ρ
    have s5 : neg1 0 (fnM 1 [] m_FractionD_negD) (Ce.mt 0 (fnM 2 [] m_Fraction_over) (rd 6) (aC (Ce.mt 1 (fnM 2 [] m_Poly_at) (prp 4 m_Operator_lead (fld ft_operator (rd 0))) (aC (rd 5) aN)) aN)) ρ = .ok (fr (-((0 + (hv p n : Int) * v + (hv q n : Int) * u) / (hv r n : Int)))) ρ := by
      rw [neg1, s4]
      exact neg_run _ b5 (by omega) ρ
    have v2 : vw 2 ρ = .ok (l.map fr) ρ := by subst hρ; rfl
    have g2 : ρ[2]? = some (some (.ol (l.map fr))) := by subst hρ; rfl
    unfold sApp
    rw [v2]
    simp only [Out.st]
    rw [s5]
    simp only [g2, List.length_map, hs, decide_true, if_true]
  have gd : l.getD (l.length - 2) 0 = v := by
    rw [hl]
    simp [List.getD, ev]
  have gd' : l.getD (l.length - 1) 0 = u := by
    rw [hl]
    simp [List.getD, eu]
  refine ⟨some (.im (.int n)), some (.im (fr (0 + (hv p n : Int) * v + (hv q n : Int) * u))), some (.im (.int 1)), ?_⟩
  have h5 : (sSet 5 (op2 iSub (rd 4) (rd 3))) [some (.im (rowD [p, q, r] ini)), c, some (.ol (l.map fr)), some (.im (.int 2)), some (.im (.int (n + 2 : Nat))), x5, x6, x7] = .nx [some (.im (rowD [p, q, r] ini)), c, some (.ol (l.map fr)), some (.im (.int 2)), some (.im (.int (n + 2 : Nat))), some (.im (.int n)), x6, x7] := by
    simp [sSet, op2, rd, iSub, ii, opt, Out.bind, Out.st]
  have h6 : (sSet 6 (cl1 (mkM 0 2 3 [.int 1] m_FractionD_initD) (aC (cst (.int 0)) aN))) [some (.im (rowD [p, q, r] ini)), c, some (.ol (l.map fr)), some (.im (.int 2)), some (.im (.int (n + 2 : Nat))), some (.im (.int n)), x6, x7] = .nx [some (.im (rowD [p, q, r] ini)), c, some (.ol (l.map fr)), some (.im (.int 2)), some (.im (.int (n + 2 : Nat))), some (.im (.int n)), some (.im (fr 0)), x7] := by
    unfold sSet cl1
    show Out.st (mkM 0 2 3 [.int 1] m_FractionD_initD [.int 0] _) _ = _
    rw [m1]
    rfl
  unfold bP
  rw [sCons_nx h5, sCons_nx h6, sCons_nx turn, sCons_nx (app _ rfl)]
  have eL : (st2 p q r l).map fr = l.map fr ++ [fr (-((0 + (hv p n : Int) * v + (hv q n : Int) * u) / (hv r n : Int)))] := by
    unfold st2
    rw [gd, gd', hl]
    simp
  rw [eL]
  rfl
end K74
namespace K74
open PySem PySem.Spec PyProof.Rows L2 Ce
def it1 (p q : List Int) (ini : List Rat) : Nat → List Rat
  | 0 => ini
  | k + 1 => st1 p q (it1 p q ini k)
theorem it1_len (p q : List Int) (ini : List Rat) : ∀ k, (it1 p q ini k).length = ini.length + k
  | 0 => rfl
  | k + 1 => by
    rw [it1, st1, List.length_append, it1_len p q ini k]
    rfl
/-- the bounds of the k-th -/
def bA : Nat → Nat
  | 0 => 5
  | k + 1 => 12 + bA k + 11 * k
theorem bA_le : ∀ k, k ≤ 14 → bA k < 2000 := by decide
theorem bA_mono (k : Nat) : bA k ≤ bA (k + 1) := by
  rw [bA]
  omega
theorem it1_bd {p q : List Int} (hp : small p) (hq : small q) {ini : List Rat} (h0 : ini ≠ []) (hi : ∀ v ∈ ini, qb v 5 0) (hz : ∀ n : Nat, ini.length ≤ n + 1 → n < 32 → hv q n ≠ 0) : ∀ k, ini.length + k < 32 → ∀ v ∈ it1 p q ini k, qb v (bA k) (11 * k)
  | 0, _, v, m => hi v m
  | k + 1, hk, v, m => by
    have ih := it1_bd hp hq h0 hi hz k (by omega)
    rw [it1, st1, List.mem_append, List.mem_singleton] at m
    have hl := it1_len p q ini k
    have hpos : 0 < ini.length := by
      cases ini with
      | nil => exact absurd rfl h0
      | cons _ _ => simp
    rcases m with m | rfl
    · exact (ih v m).mono (bA_mono k) (by omega)
    · have hn : (it1 p q ini k).length - 1 < 32 := by omega
      have hkk : nb (((it1 p q ini k).length - 1 : Nat) : Int) 5 := by unfold nb; omega
      have hlt : (it1 p q ini k).length - 1 < (it1 p q ini k).length := by omega
      have hv0 : (it1 p q ini k).getD ((it1 p q ini k).length - 1) 0 = (it1 p q ini k)[(it1 p q ini k).length - 1] := by simp [List.getD, hlt]
      rw [hv0]
      have b := ih _ (List.getElem_mem hlt)
      have b0 : qb (0 : Rat) 0 0 := ⟨by unfold nb; decide, by unfold nb; decide⟩
      have b3 := qb_mul (qb_int (nb_hv hp hkk)) b
      have b4 := qb_add b0 b3 (c := 11 + bA k + 11 * k) (by omega) (by omega)
      have hz' : ((hv q ((it1 p q ini k).length - 1 : Nat) : Int) : Rat) ≠ 0 := by
        intro z
        exact hz ((it1 p q ini k).length - 1) (by omega) hn (by exact_mod_cast z)
      have b5 := qb_neg (qb_div b4 (qb_int (nb_hv hq hkk)) hz')
      exact b5.mono (by rw [bA]; omega) (by omega)
theorem cut_take (ds : List D) (c : Nat) : Ce.cutD ds none (some (c : Int)) = ds.take c := by
  unfold Ce.cutD
  rw [HT.sIx_nat]
  have e : HT.sIx ds.length 0 none = 0 := rfl
  rw [e, List.drop_zero, Nat.sub_zero, List.take_eq_take_iff]
  omega
end K74
namespace K74
open PySem PySem.Spec PyProof.Rows L2 Ce
theorem fn_rt {n m : Nat} {dd ds : List D} {fb : En → SOut} {d : D} {ρ' : En} (ρ : En) (hl : ds.length + dd.length = n) (h : fb (((ds ++ dd).map fun d => some (.im d)) ++ List.replicate (m - (ds ++ dd).length) none) = .rt d ρ') : fnM n dd (mOf m [] fb) ds ρ = .ok d ρ := by
  unfold fnM
  rw [if_pos (by simpa using hl)]
  unfold onD mOf
  rw [List.length_map, h]
theorem inR_nat (n : Nat) (h : n < 1000) : Ce.inR (n : Int) = true := by
  unfold Ce.inR
  have e : (2 : Int) ^ 62 = 4611686018427387904 := by decide
  rw [e]
  simp only [Bool.and_eq_true, decide_eq_true_eq]
  omega
theorem rng_at {i : Int} {m j : Nat} {d : D} (h : (rngD i 1 m)[j]? = some d) : j < m ∧ d = .int (i + j) := by
  have l : j < m := by
    have z := (List.getElem?_eq_some_iff.mp h).1
    rwa [rngD_len] at z
  rw [rngD_get l] at h
  simp at h
  exact ⟨l, h.symm⟩
theorem itR2_ok {g : En → Out (List D)} {ρ ρ1 : En} {i j : Int} (h : g ρ = .ok [.int i, .int j] ρ1) (hi : Ce.inR i = true) (hj : Ce.inR j = true) : itR2 g ρ = .ok (rngD i 1 (j - i).toNat) ρ1 := by
  unfold itR2
  rw [h]
  simp only [Out.bind, hi, hj, Bool.and_self, if_true]
theorem itR1_ok {g : En → Out (List D)} {ρ ρ1 : En} {j : Int} (h : g ρ = .ok [.int j] ρ1) (hj : Ce.inR j = true) : itR1 g ρ = .ok (rngD 0 1 j.toNat) ρ1 := by
  unfold itR1
  rw [h]
  simp only [Out.bind, hj, if_true]
theorem rng2 (ρ : En) (l : List D) (c : Nat) (hc : c < 1000) (hl : l.length ≤ c) (h2 : ρ[2]? = some (some (.ol l))) (h1 : ρ[1]? = some (some (.im (.int c)))) : itR2 (aC (vLen (vw 2)) (aC (rd 1) aN)) ρ = .ok (rngD (l.length : Nat) 1 (c - l.length)) ρ := by
  have i1 := inR_nat l.length (by omega)
  have i2 := inR_nat c (by omega)
  have i3 : ((c : Int) - (l.length : Int)).toNat = c - l.length := by omega
  have j1 : vw 2 ρ = .ok l ρ := by rw [vw, h2]
  have j2 : rd 1 ρ = .ok (.int c) ρ := by rw [rd, h1]
  have j3 : vLen (vw 2) ρ = .ok (.int (l.length : Nat)) ρ := by rw [vLen, j1]; rfl
  have j4 : aC (rd 1) aN ρ = .ok [.int c] ρ := by rw [aC, j2]; rfl
  have j5 : aC (vLen (vw 2)) (aC (rd 1) aN) ρ = .ok [.int (l.length : Nat), .int c] ρ := by
    rw [aC, j3]
    show Out.bind (aC (rd 1) aN ρ) _ = _
    rw [j4]
    rfl
  exact (itR2_ok j5 i1 i2).trans (by rw [i3])
theorem prefix_gen (ps : List (List Int)) (ini : List Rat) (o : Int) (c : Nat) (hc : c ≤ 14) (F : Nat → List Rat) (hord : ∀ ρ, onV m_Operator_order [opD ps] ρ = .ok (.int o) ρ) (h0 : F 0 = ini.take c)
    (ht : ∀ k, (ini.take c).length + k < c → ∀ x5 x6 x7, ∃ y5 y6 y7, bP [some (.im (rowD ps ini)), some (.im (.int c)), some (.ol ((F k).map fr)), some (.im (.int o)), some (.im (.int ((ini.take c).length + k : Nat))), x5, x6, x7] = .nx [some (.im (rowD ps ini)), some (.im (.int c)), some (.ol ((F (k + 1)).map fr)), some (.im (.int o)), some (.im (.int ((ini.take c).length + k : Nat))), y5, y6, y7]) (ρ : En) :
    fnM 2 [] m_Row_prefix [rowD ps ini, .int c] ρ = .ok (.lst ((F (c - (ini.take c).length)).map fr)) ρ := by
  have e1 : (sSetN 2 (nList (sl3 (fld ft_initial (rd 0)) noP (isP (rd 1))))) [some (.im (rowD ps ini)), some (.im (.int c)), none, none, none, none, none, none] = .nx [some (.im (rowD ps ini)), some (.im (.int c)), some (.ol ((F 0).map fr)), none, none, none, none, none] := by
    rw [h0]
    simp [sSetN, nList, sl3, fld, rd, rowD, ft_initial, noP, isP, Out.bind, Out.st, opt, slT, cut_take, List.map_take]
  have e2 : (sSet 3 (prp 4 m_Operator_order (fld ft_operator (rd 0)))) [some (.im (rowD ps ini)), some (.im (.int c)), some (.ol ((F 0).map fr)), none, none, none, none, none] = .nx [some (.im (rowD ps ini)), some (.im (.int c)), some (.ol ((F 0).map fr)), some (.im (.int o)), none, none, none, none] := by
    have z := hord [some (.im (rowD ps ini)), some (.im (.int c)), some (.ol ((F 0).map fr)), none, none, none, none, none]
    rw [rowD, opD] at z
    simp [sSet, prp, fld, rd, rowD, opD, ft_operator, Out.bind, Out.st, opt, z]
  have hl : (ini.take c).length ≤ c := by rw [List.length_take]; omega
  have e3 : itR2 (aC (vLen (vw 2)) (aC (rd 1) aN)) [some (.im (rowD ps ini)), some (.im (.int c)), some (.ol ((F 0).map fr)), some (.im (.int o)), none, none, none, none] = .ok (rngD ((ini.take c).length : Nat) 1 (c - (ini.take c).length)) [some (.im (rowD ps ini)), some (.im (.int c)), some (.ol ((F 0).map fr)), some (.im (.int o)), none, none, none, none] := by
    have z := rng2 [some (.im (rowD ps ini)), some (.im (.int c)), some (.ol ((F 0).map fr)), some (.im (.int o)), none, none, none, none] ((F 0).map fr) c (by omega) (by rw [h0, List.length_map]; exact hl) rfl rfl
    rw [List.length_map, h0] at z
    rw [h0]
    exact z
  obtain ⟨ρ', e4, x4, x5, x6, x7, e5⟩ := forL_inv (g := gN 4) (b := bP) (fun k ρ => ∃ x4 x5 x6 x7, ρ = [some (.im (rowD ps ini)), some (.im (.int c)), some (.ol ((F k).map fr)), some (.im (.int o)), x4, x5, x6, x7]) (rngD ((ini.take c).length : Nat) 1 (c - (ini.take c).length)) 0 [some (.im (rowD ps ini)), some (.im (.int c)), some (.ol ((F 0).map fr)), some (.im (.int o)), none, none, none, none] ⟨_, _, _, _, rfl⟩ (by
    rintro j d ρ1 hj ⟨x4, x5, x6, x7, rfl⟩
    obtain ⟨hj, rfl⟩ := rng_at hj
    obtain ⟨y5, y6, y7, z⟩ := ht j (by omega) x5 x6 x7
    rw [Nat.zero_add]
    exact ⟨_, _, rfl, by rw [Int.natCast_add] at z; exact z, _, _, _, _, rfl⟩)
  rw [rngD_len, Nat.zero_add] at e5
  subst e5
  have e6 : b_Row_prefix [some (.im (rowD ps ini)), some (.im (.int c)), none, none, none, none, none, none] = .rt (.lst ((F (c - (ini.take c).length)).map fr)) [some (.im (rowD ps ini)), some (.im (.int c)), some (.im (.lst ((F (c - (ini.take c).length)).map fr))), some (.im (.int o)), x4, x5, x6, x7] := by
    have e7 : (sFor (itR2 (aC (vLen (vw 2)) (aC (rd 1) aN))) (gN 4) bP) [some (.im (rowD ps ini)), some (.im (.int c)), some (.ol ((F 0).map fr)), some (.im (.int o)), none, none, none, none] = .nx [some (.im (rowD ps ini)), some (.im (.int c)), some (.ol ((F (c - (ini.take c).length)).map fr)), some (.im (.int o)), x4, x5, x6, x7] := by
      rw [sFor, e3]
      exact e4
    unfold b_Row_prefix
    rw [sCons_nx e1, sCons_nx e2]
    refine (sCons_nx e7).trans ?_
    rfl
  exact fn_rt (m := 8) ρ rfl e6
end K74
namespace K74
open PySem PySem.Spec PyProof.Rows L2 Ce
theorem it1_take (p q : List Int) (ini : List Rat) (k : Nat) : ∀ m, k ≤ m → (it1 p q ini m).take (ini.length + k) = it1 p q ini k
  | 0, h => by
    have e : k = 0 := by omega
    subst e
    simp [it1]
  | m + 1, h => by
    by_cases e : k = m + 1
    · subst e
      rw [← it1_len p q ini (m + 1), List.take_length]
    · rw [it1, st1, List.take_append_of_le_length (by rw [it1_len]; omega), it1_take p q ini k m (by omega)]
theorem take_it1 (p q : List Int) (ini : List Rat) (c : Nat) (hc : c ≤ 14) : it1 p q (ini.take c) (c - (ini.take c).length) = (it1 p q ini 14).take c := by
  rw [List.length_take]
  by_cases h : c ≤ ini.length
  · rw [Nat.min_eq_left h, Nat.sub_self, it1]
    have z := it1_take p q ini 0 14 (by omega)
    rw [it1, Nat.add_zero] at z
    conv => lhs; rw [← z]
    rw [List.take_take, Nat.min_eq_left h]
  · rw [Nat.min_eq_right (by omega), List.take_of_length_le (by omega)]
    have z := it1_take p q ini (c - ini.length) 14 (by omega)
    rw [show ini.length + (c - ini.length) = c by omega] at z
    exact z.symm
theorem prefix1 (p q : List Int) (hp : small p) (hq : small q) (ini : List Rat) (h0 : ini ≠ []) (hl : ini.length ≤ 5) (hi : ∀ v ∈ ini, qb v 5 0) (hz : ∀ n : Nat, ini.length ≤ n + 1 → n < 32 → hv q n ≠ 0) (c : Nat) (hc : c ≤ 14) (ρ : En) :
    fnM 2 [] m_Row_prefix [rowD [p, q] ini, .int c] ρ = .ok (.lst (((it1 p q ini 14).take c).map fr)) ρ := by
  rw [← take_it1 p q ini c hc]
  refine prefix_gen [p, q] ini 1 c hc (it1 p q (ini.take c)) (order1 p q) rfl ?_ ρ
  intro k hk x5 x6 x7
  have hpos : 0 < ini.length := by
    cases ini with
    | nil => exact absurd rfl h0
    | cons _ _ => simp
  have e : ini.take c = ini := by
    rw [List.length_take] at hk
    exact List.take_of_length_le (by omega)
  rw [e] at hk ⊢
  have b := it1_bd hp hq h0 hi hz k (by omega)
  have l1 := it1_len p q ini k
  have hlt : ini.length + k - 1 < (it1 p q ini k).length := by omega
  have bb := b _ (List.getElem_mem hlt)
  have z := body1 p q hp hq ini (it1 p q ini k) (ini.length + k - 1) (by omega) (by omega) ((it1 p q ini k)[ini.length + k - 1]) (List.getElem?_eq_getElem hlt) bb (by have := bA_le k (by omega); omega) (by omega) (hz _ (by omega) (by omega)) (some (.im (.int c))) x5 x6 x7
  rw [show ini.length + k - 1 + 1 = ini.length + k by omega] at z
  exact z
def it2 (p q r : List Int) (ini : List Rat) : Nat → List Rat
  | 0 => ini
  | k + 1 => st2 p q r (it2 p q r ini k)
theorem it2_len (p q r : List Int) (ini : List Rat) : ∀ k, (it2 p q r ini k).length = ini.length + k
  | 0 => rfl
  | k + 1 => by
    rw [it2, st2, List.length_append, it2_len p q r ini k]
    rfl
theorem it2_take (p q r : List Int) (ini : List Rat) (k : Nat) : ∀ m, k ≤ m → (it2 p q r ini m).take (ini.length + k) = it2 p q r ini k
  | 0, h => by
    have e : k = 0 := by omega
    subst e
    simp [it2]
  | m + 1, h => by
    by_cases e : k = m + 1
    · subst e
      rw [← it2_len p q r ini (m + 1), List.take_length]
    · rw [it2, st2, List.take_append_of_le_length (by rw [it2_len]; omega), it2_take p q r ini k m (by omega)]
theorem take_it2 (p q r : List Int) (ini : List Rat) (c : Nat) (hc : c ≤ 14) : it2 p q r (ini.take c) (c - (ini.take c).length) = (it2 p q r ini 14).take c := by
  rw [List.length_take]
  by_cases h : c ≤ ini.length
  · rw [Nat.min_eq_left h, Nat.sub_self, it2]
    have z := it2_take p q r ini 0 14 (by omega)
    rw [it2, Nat.add_zero] at z
    conv => lhs; rw [← z]
    rw [List.take_take, Nat.min_eq_left h]
  · rw [Nat.min_eq_right (by omega), List.take_of_length_le (by omega)]
    have z := it2_take p q r ini (c - ini.length) 14 (by omega)
    rw [show ini.length + (c - ini.length) = c by omega] at z
    exact z.symm
theorem it2_bd {p q : List Int} (hp : small p) (hq : small q) {ini : List Rat} (h2 : ini.length = 2) (hi : ∀ v ∈ ini, qb v 5 0) : ∀ k, k < 20 → ∀ v ∈ it2 p q [1] ini k, qb v (5 + 13 * k) 0
  | 0, _, v, m => hi v m
  | k + 1, hk, v, m => by
    have ih := it2_bd hp hq h2 hi k (by omega)
    rw [it2, st2, List.mem_append, List.mem_singleton] at m
    have hl := it2_len p q [1] ini k
    rcases m with m | rfl
    · exact (ih v m).mono (by omega) (by omega)
    · have hkk : nb (((it2 p q [1] ini k).length - 2 : Nat) : Int) 5 := by unfold nb; omega
      have hlt : (it2 p q [1] ini k).length - 2 < (it2 p q [1] ini k).length := by omega
      have hlt' : (it2 p q [1] ini k).length - 1 < (it2 p q [1] ini k).length := by omega
      have v0 : (it2 p q [1] ini k).getD ((it2 p q [1] ini k).length - 2) 0 = (it2 p q [1] ini k)[(it2 p q [1] ini k).length - 2] := by simp [List.getD, hlt]
      have v1 : (it2 p q [1] ini k).getD ((it2 p q [1] ini k).length - 1) 0 = (it2 p q [1] ini k)[(it2 p q [1] ini k).length - 1] := by simp [List.getD, hlt']
      rw [v0, v1]
      have b := ih _ (List.getElem_mem hlt)
      have b' := ih _ (List.getElem_mem hlt')
      have b0 : qb (0 : Rat) 0 0 := ⟨by unfold nb; decide, by unfold nb; decide⟩
      have b1 : qb ((1 : Int) : Rat) 0 0 := ⟨by unfold nb; decide, by unfold nb; decide⟩
      have b3 := qb_mul (qb_int (nb_hv hp hkk)) b
      have b3' := qb_mul (qb_int (nb_hv hq hkk)) b'
      have b4 := qb_add b0 b3 (c := 11 + (5 + 13 * k)) (by omega) (by omega)
      have b5 := qb_add b4 b3' (c := 12 + (5 + 13 * k)) (by omega) (by omega)
      have e1 : hv [1] (((it2 p q [1] ini k).length - 2 : Nat) : Int) = 1 := by simp [hv]
      rw [e1]
      have b6 := qb_neg (qb_div b5 b1 (by decide))
      exact b6.mono (by omega) (by omega)
theorem prefix2 (p q : List Int) (hp : small p) (hq : small q) (ini : List Rat) (h2 : ini.length = 2) (hi : ∀ v ∈ ini, qb v 5 0) (c : Nat) (hc : c ≤ 14) (ρ : En) :
    fnM 2 [] m_Row_prefix [rowD [p, q, [1]] ini, .int c] ρ = .ok (.lst (((it2 p q [1] ini 14).take c).map fr)) ρ := by
  rw [← take_it2 p q [1] ini c hc]
  refine prefix_gen [p, q, [1]] ini 2 c hc (it2 p q [1] (ini.take c)) (order2 p q [1]) rfl ?_ ρ
  intro k hk x5 x6 x7
  have e : ini.take c = ini := by
    rw [List.length_take] at hk
    exact List.take_of_length_le (by omega)
  rw [e] at hk ⊢
  have b := it2_bd hp hq h2 hi k (by omega)
  have l1 := it2_len p q [1] ini k
  have hlt : k < (it2 p q [1] ini k).length := by omega
  have hlt' : k + 1 < (it2 p q [1] ini k).length := by omega
  have z := body2 p q [1] hp hq (.inr (.inl ⟨1, rfl, by unfold nb; decide⟩)) ini (it2 p q [1] ini k) k (by omega) (by omega) _ _ (List.getElem?_eq_getElem hlt) (List.getElem?_eq_getElem hlt') (b _ (List.getElem_mem hlt)) (b _ (List.getElem_mem hlt')) (by omega) (by omega) (by simp [hv]) (some (.im (.int c))) x5 x6 x7
  rw [show k + 2 = ini.length + k by omega] at z
  exact z
end K74
namespace K74
open PySem PySem.Spec PyProof.Rows L2 Ce
def pD (ps : List (List Int)) (ini : List Int) : D := .lst [.lst (ps.map fun p => .lst (p.map .int)), .lst (ini.map .int)]
inductive Kd (m : Int) : List (List Int) → List Int → Prop
  | k0 {a b c s : Int} (ha : -4 ≤ a ∧ a ≤ 4) (hb : -4 ≤ b ∧ b ≤ 4) (hc : 0 ≤ c ∧ c ≤ 3) (hs : -4 ≤ s ∧ s ≤ m) : Kd m [[b, a], [c + 1, 1]] [s]
  | k1 {a b s t : Int} (ha : -4 ≤ a ∧ a ≤ 4) (hb : -4 ≤ b ∧ b ≤ 4) (hs : -4 ≤ s ∧ s ≤ m) (ht : -4 ≤ t ∧ t ≤ m) : Kd m [[b], [a], [1]] [s, t]
  | k2 {a b : Int} {c : Nat} {ini : List Int} (ha : -4 ≤ a ∧ a ≤ 4) (hb : -4 ≤ b ∧ b ≤ 4) (hc : c ≤ 3) (hl : ini.length = c + 2) (hi : ∀ z ∈ ini, -4 ≤ z ∧ z ≤ m) : Kd m [[b, a], [-(c : Int), 1]] ini
theorem fm (x m : Int) (h : 0 < m) : 0 ≤ x.fmod m ∧ x.fmod m < m := by
  rw [Int.fmod_eq_emod_of_nonneg x (Int.le_of_lt h)]
  exact ⟨Int.emod_nonneg x (by omega), Int.emod_lt_of_pos x h⟩
theorem seq_go (xs : List D) (pl : Int) (a b k c s t : Int) (hk : 0 ≤ k ∧ k < 3) (ha : -4 ≤ a ∧ a ≤ 4) (hb : -4 ≤ b ∧ b ≤ 4) (hc : 0 ≤ c ∧ c ≤ 3) (hs : -4 ≤ s ∧ s ≤ 4) (ht : -4 ≤ t ∧ t ≤ 4) :
    ∃ ps ini ρ', Kd 8 ps ini ∧ (sCons (sIf (tst (op2 sEq (rd 2) (cst (.int 0)))) (sCons (sRet (fz (nLst (aC (fz (nLst (aC (fz (nLst (aC (rd 4) (aC (rd 3) aN)))) (aC (fz (nLst (aC (op2 iAdd (rd 5) (cst (.int 1))) (aC (cst (.int 1)) aN)))) aN)))) (aC (fz (nSlV 6 noP (isP (cst (.int 1))))) aN))))) sNil) sNil) (sCons (sIf (tst (op2 sEq (rd 2) (cst (.int 1)))) (sCons (sRet (fz (nLst (aC (fz (nLst (aC (fz (nLst (aC (rd 4) aN))) (aC (fz (nLst (aC (rd 3) aN))) (aC (fz (nLst (aC (cst (.int 1)) aN))) aN))))) (aC (rd 6) aN))))) sNil) sNil) (sCons (sRet (fz (nLst (aC (fz (nLst (aC (fz (nLst (aC (rd 4) (aC (rd 3) aN)))) (aC (fz (nLst (aC (iNeg (rd 5)) (aC (cst (.int 1)) aN)))) aN)))) (aC (fz (nLc (itR1 (aC (op2 iAdd (rd 5) (cst (.int 2))) aN)) (gN 7) always (op2 iAdd (ixV 6 (op2 iMod (rd 7) (cst (.int 2)))) (rd 7)) [7])) aN))))) sNil))) [some (.im (.lst xs)), some (.im (.int pl)), some (.im (.int k)), some (.im (.int a)), some (.im (.int b)), some (.im (.int c)), some (.ol [.int s, .int t]), none] = .rt (pD ps ini) ρ' := by
  have k3 : k = 0 ∨ k = 1 ∨ k = 2 := by omega
  have c4 : c = 0 ∨ c = 1 ∨ c = 2 ∨ c = 3 := by omega
  rcases k3 with rfl | rfl | rfl
  · exact ⟨_, _, _, .k0 ha hb hc (s := s) ⟨hs.1, by omega⟩, rfl⟩
  · exact ⟨_, _, _, .k1 ha hb (s := s) (t := t) ⟨hs.1, by omega⟩ ⟨ht.1, by omega⟩, rfl⟩
  · rcases c4 with rfl | rfl | rfl | rfl
    · refine ⟨_, [s + 0, t + 1], _, .k2 (c := 0) ha hb (by omega) rfl (fun z m => ?_), rfl⟩
      simp at m
      omega
    · refine ⟨_, [s + 0, t + 1, s + 2], _, .k2 (c := 1) ha hb (by omega) rfl (fun z m => ?_), rfl⟩
      simp at m
      omega
    · refine ⟨_, [s + 0, t + 1, s + 2, t + 3], _, .k2 (c := 2) ha hb (by omega) rfl (fun z m => ?_), rfl⟩
      simp at m
      omega
    · refine ⟨_, [s + 0, t + 1, s + 2, t + 3, s + 4], _, .k2 (c := 3) ha hb (by omega) rfl (fun z m => ?_), rfl⟩
      simp at m
      omega
theorem seq_run (xs : List D) (pl : Int) (x0 x1 x2 x3 : Int) (e0 : L2.atI xs pl = some (.int x0)) (e1 : L2.atI xs (pl + 1) = some (.int x1)) (e2 : L2.atI xs (pl + 2) = some (.int x2)) (e3 : L2.atI xs (pl + 3) = some (.int x3)) (ρ : En) :
    ∃ ps ini, Kd 8 ps ini ∧ fnM 2 [] m__law_sequence [.lst xs, .int pl] ρ = .ok (pD ps ini) ρ := by
  have b0 := fm x0 3 (by omega)
  have b1 := fm x1 9 (by omega)
  have b2 := fm (x1.fdiv 9) 9 (by omega)
  have b3 := fm x2 4 (by omega)
  have b4 := fm x3 9 (by omega)
  have b5 := fm (x3.fdiv 9) 9 (by omega)
  obtain ⟨ps, ini, ρ', h, z⟩ := seq_go xs pl (x1.fmod 9 - 4) ((x1.fdiv 9).fmod 9 - 4) (x0.fmod 3) (x2.fmod 4) (x3.fmod 9 - 4) ((x3.fdiv 9).fmod 9 - 4) b0 (by omega) (by omega) (by omega) (by omega) (by omega)
  refine ⟨ps, ini, h, fn_rt (m := 8) (ρ' := ρ') ρ rfl ?_⟩
  have d9 : divOk 9 = true := by decide
  have s2 : (sSet 2 (op2 iMod (ixV 0 (rd 1)) (cst (.int 3)))) [some (.im (.lst xs)), some (.im (.int pl)), none, none, none, none, none, none] = .nx [some (.im (.lst xs)), some (.im (.int pl)), some (.im (.int (x0.fmod 3))), none, none, none, none, none] := by
    simp [sSet, op2, ixV, vw, rd, cst, iMod, ii, opt, Out.bind, Out.st, e0]
  have s3 : (sSet 3 (op2 iSub (op2 iMod (ixV 0 (op2 iAdd (rd 1) (cst (.int 1)))) (cst (.int 9))) (cst (.int 4)))) [some (.im (.lst xs)), some (.im (.int pl)), some (.im (.int (x0.fmod 3))), none, none, none, none, none] = .nx [some (.im (.lst xs)), some (.im (.int pl)), some (.im (.int (x0.fmod 3))), some (.im (.int (x1.fmod 9 - 4))), none, none, none, none] := by
    simp [sSet, op2, ixV, vw, rd, cst, iMod, iSub, iAdd, ii, opt, Out.bind, Out.st, e1]
  have s4 : (sSet 4 (op2 iSub (op2 iMod (op2 iDiv (ixV 0 (op2 iAdd (rd 1) (cst (.int 1)))) (cst (.int 9))) (cst (.int 9))) (cst (.int 4)))) [some (.im (.lst xs)), some (.im (.int pl)), some (.im (.int (x0.fmod 3))), some (.im (.int (x1.fmod 9 - 4))), none, none, none, none] = .nx [some (.im (.lst xs)), some (.im (.int pl)), some (.im (.int (x0.fmod 3))), some (.im (.int (x1.fmod 9 - 4))), some (.im (.int ((x1.fdiv 9).fmod 9 - 4))), none, none, none] := by
    simp [sSet, op2, ixV, vw, rd, cst, iMod, iSub, iAdd, iDiv, ii, opt, Out.bind, Out.st, e1, d9]
  have s5 : (sSet 5 (op2 iMod (ixV 0 (op2 iAdd (rd 1) (cst (.int 2)))) (cst (.int 4)))) [some (.im (.lst xs)), some (.im (.int pl)), some (.im (.int (x0.fmod 3))), some (.im (.int (x1.fmod 9 - 4))), some (.im (.int ((x1.fdiv 9).fmod 9 - 4))), none, none, none] = .nx [some (.im (.lst xs)), some (.im (.int pl)), some (.im (.int (x0.fmod 3))), some (.im (.int (x1.fmod 9 - 4))), some (.im (.int ((x1.fdiv 9).fmod 9 - 4))), some (.im (.int (x2.fmod 4))), none, none] := by
    simp [sSet, op2, ixV, vw, rd, cst, iMod, iSub, iAdd, iDiv, ii, opt, Out.bind, Out.st, e2]
  have s6 : (sSetN 6 (nLst (aC (op2 iSub (op2 iMod (ixV 0 (op2 iAdd (rd 1) (cst (.int 3)))) (cst (.int 9))) (cst (.int 4))) (aC (op2 iSub (op2 iMod (op2 iDiv (ixV 0 (op2 iAdd (rd 1) (cst (.int 3)))) (cst (.int 9))) (cst (.int 9))) (cst (.int 4))) aN)))) [some (.im (.lst xs)), some (.im (.int pl)), some (.im (.int (x0.fmod 3))), some (.im (.int (x1.fmod 9 - 4))), some (.im (.int ((x1.fdiv 9).fmod 9 - 4))), some (.im (.int (x2.fmod 4))), none, none] = .nx [some (.im (.lst xs)), some (.im (.int pl)), some (.im (.int (x0.fmod 3))), some (.im (.int (x1.fmod 9 - 4))), some (.im (.int ((x1.fdiv 9).fmod 9 - 4))), some (.im (.int (x2.fmod 4))), some (.ol [.int (x3.fmod 9 - 4), .int ((x3.fdiv 9).fmod 9 - 4)]), none] := by
    have hs : 2 ≤ sizeLine := by rw [sizeLine_eq]; omega
    simp [sSetN, nLst, aC, aN, op2, ixV, vw, rd, cst, iMod, iSub, iAdd, iDiv, ii, opt, Out.bind, Out.st, e3, d9, hs]
  show b__law_sequence [some (.im (.lst xs)), some (.im (.int pl)), none, none, none, none, none, none] = _
  unfold b__law_sequence
  rw [sCons_nx s2, sCons_nx s3, sCons_nx s4, sCons_nx s5, sCons_nx s6]
  exact z
end K74
namespace K74
open PySem PySem.Spec PyProof.Rows L2 Ce
theorem set_none {ρ : En} {v : Nat} (h : ρ[v]? = some none) : ρ.set v none = ρ := by
  obtain ⟨l, e⟩ := List.getElem?_eq_some_iff.mp h
  conv => lhs; rw [← e]
  exact List.set_getElem_self l
theorem lcL_map {fe : En → Out D} {v : Nat} {h : D → D} {ρ : En} (hv : ρ[v]? = some none) : ∀ (ds acc : List D), acc.length + ds.length < sizeLine → (∀ d ∈ ds, fe (ρ.set v (some (.im d))) = .ok (h d) (ρ.set v (some (.im d)))) → lcL (gN v) always fe [v] ds acc ρ = .ok (acc ++ ds.map h) ρ
  | [], acc, _, _ => by simp [lcL]
  | d :: ds, acc, hl, he => by
    rw [List.length_cons] at hl
    have z := he d List.mem_cons_self
    have w : wipeE (ρ.set v (some (.im d))) [v] = ρ := by
      show (ρ.set v (some (.im d))).set v none = ρ
      rw [List.set_set, set_none hv]
    have r := lcL_map hv ds (acc ++ [h d]) (by rw [List.length_append, List.length_singleton]; omega) fun d m => he d (List.mem_cons_of_mem _ m)
    have hs : acc.length < sizeLine := by omega
    rw [lcL]
    simp only [gN, always, z, hs, decide_true, if_true, w]
    rw [show (acc ++ List.map h (d :: ds)) = acc ++ [h d] ++ List.map h ds by simp]
    exact r
theorem lc_map {f : En → Out (List D)} {fe : En → Out D} {v : Nat} {ds : List D} {h : D → D} {ρ : En} (hf : f ρ = .ok ds ρ) (hv : ρ[v]? = some none) (hl : ds.length < sizeLine) (he : ∀ d ∈ ds, fe (ρ.set v (some (.im d))) = .ok (h d) (ρ.set v (some (.im d)))) : nLc f (gN v) always fe [v] ρ = .ok (ds.map h) ρ := by
  have w : wipeE ρ [v] = ρ := set_none hv
  unfold nLc
  rw [hf]
  simp only [Out.bind]
  rw [w, lcL_map hv ds [] (by rw [List.length_nil]; omega) he]
  simp [restE, hv]
def trim2 (b a : Int) : List Int := if a = 0 then (if b = 0 then [] else [b]) else [b, a]
def trim1 (b : Int) : List Int := if b = 0 then [] else [b]
def tr : List Int → List Int
  | [b] => trim1 b
  | [b, a] => trim2 b a
  | l => l
theorem int9 {a : Int} (h : -4 ≤ a ∧ a ≤ 4) : a = -4 ∨ a = -3 ∨ a = -2 ∨ a = -1 ∨ a = 0 ∨ a = 1 ∨ a = 2 ∨ a = 3 ∨ a = 4 := by omega
theorem pol1 {b : Int} (hb : -4 ≤ b ∧ b ≤ 4) (ρ : En) : mkM 1 2 3 [.int 1] m_PolyD_initD [.lst [.int b]] ρ = .ok (poly (tr [b])) ρ := by
  rcases int9 hb with rfl | rfl | rfl | rfl | rfl | rfl | rfl | rfl | rfl <;> kernel_rfl
theorem pol2 {b a : Int} (hb : -4 ≤ b ∧ b ≤ 4) (ha : -4 ≤ a ∧ a ≤ 4) (ρ : En) : mkM 1 2 3 [.int 1] m_PolyD_initD [.lst [.int b, .int a]] ρ = .ok (poly (tr [b, a])) ρ := by
  rcases int9 hb with rfl | rfl | rfl | rfl | rfl | rfl | rfl | rfl | rfl <;> rcases int9 ha with rfl | rfl | rfl | rfl | rfl | rfl | rfl | rfl | rfl <;> kernel_rfl
theorem opr2 (p : List Int) (x y : Int) (ρ : En) : mkM 4 1 2 [] m_OperatorD_initD [.lst [poly p, poly [x, y]]] ρ = .ok (opD [p, [x, y]]) ρ := by kernel_rfl
theorem opr3 (p q : List Int) (ρ : En) : mkM 4 1 2 [] m_OperatorD_initD [.lst [poly p, poly q, poly [1]]] ρ = .ok (opD [p, q, [1]]) ρ := by kernel_rfl
theorem row0 (p : List Int) {c : Int} (hc : 0 ≤ c ∧ c ≤ 3) (d : D) (ρ : En) : mkM 5 2 3 [] m_RowD_initD [opD [p, [c + 1, 1]], .lst [d]] ρ = .ok (.ins 5 [opD [p, [c + 1, 1]], .tup [d]]) ρ := by
  have c4 : c = 0 ∨ c = 1 ∨ c = 2 ∨ c = 3 := by omega
  rcases c4 with rfl | rfl | rfl | rfl <;> kernel_rfl
theorem row1 (p q : List Int) (d e : D) (ρ : En) : mkM 5 2 3 [] m_RowD_initD [opD [p, q, [1]], .lst [d, e]] ρ = .ok (.ins 5 [opD [p, q, [1]], .tup [d, e]]) ρ := by kernel_rfl
theorem row2 (p : List Int) {c : Nat} (hc : c ≤ 3) (ds : List D) (hl : ds.length = c + 2) (ρ : En) : mkM 5 2 3 [] m_RowD_initD [opD [p, [-(c : Int), 1]], .lst ds] ρ = .ok (.ins 5 [opD [p, [-(c : Int), 1]], .tup ds]) ρ := by
  have c4 : c = 0 ∨ c = 1 ∨ c = 2 ∨ c = 3 := by omega
  rcases c4 with rfl | rfl | rfl | rfl
  · match ds, hl with
    | [d1, d2], _ => kernel_rfl
  · match ds, hl with
    | [d1, d2, d3], _ => kernel_rfl
  · match ds, hl with
    | [d1, d2, d3, d4], _ => kernel_rfl
  · match ds, hl with
    | [d1, d2, d3, d4, d5], _ => kernel_rfl
end K74
namespace K74
open PySem PySem.Spec PyProof.Rows L2 Ce
def uh : D → D
  | .lst [.int b] => poly (tr [b])
  | .lst [.int b, .int a] => poly (tr [b, a])
  | d => d
def uf : D → D
  | .int z => fr (z : Rat)
  | d => d
def shp (p : List Int) : Prop := (∃ b, p = [b] ∧ -4 ≤ b ∧ b ≤ 4) ∨ ∃ b a, p = [b, a] ∧ (-4 ≤ b ∧ b ≤ 4) ∧ -4 ≤ a ∧ a ≤ 4
theorem Kd.shp {m : Int} {ps : List (List Int)} {ini : List Int} (h : Kd m ps ini) : ∀ p ∈ ps, shp p := by
  cases h with
  | k0 ha hb hc hs =>
    intro p m
    simp at m
    rcases m with rfl | rfl
    · exact .inr ⟨_, _, rfl, hb, ha⟩
    · exact .inr ⟨_, _, rfl, by omega, by omega⟩
  | k1 ha hb hs ht =>
    intro p m
    simp at m
    rcases m with rfl | rfl | rfl
    · exact .inl ⟨_, rfl, hb⟩
    · exact .inl ⟨_, rfl, ha⟩
    · exact .inl ⟨_, rfl, by omega, by omega⟩
  | k2 ha hb hc hl hi =>
    intro p m
    simp at m
    rcases m with rfl | rfl
    · exact .inr ⟨_, _, rfl, hb, ha⟩
    · exact .inr ⟨_, _, rfl, by omega, by omega⟩
theorem Kd.len {m : Int} {ps : List (List Int)} {ini : List Int} (h : Kd m ps ini) : 1 ≤ ini.length ∧ ini.length ≤ 5 ∧ ps.length ≤ 3 := by
  cases h with
  | k0 => simp
  | k1 => simp
  | k2 ha hb hc hl hi => simp; omega
theorem row_gen {ps : List (List Int)} {ini : List Int} {qs : List (List Int)} (hq : qs = ps.map tr) (hs : ∀ p ∈ ps, K74.shp p) (l1 : ps.length ≤ 3) (l2 : ini.length ≤ 5) (ho : ∀ ρ, mkM 4 1 2 [] m_OperatorD_initD [.lst (qs.map poly)] ρ = .ok (opD qs) ρ) (hr : ∀ ρ, mkM 5 2 3 [] m_RowD_initD [opD qs, .lst (ini.map fun z : Int => fr (z : Rat))] ρ = .ok (.ins 5 [opD qs, .tup (ini.map fun z : Int => fr (z : Rat))]) ρ) (ρ : En) :
    fnM 1 [] m__law_row [pD ps ini] ρ = .ok (rowD qs (ini.map fun z : Int => (z : Rat))) ρ := by
  have sz : 100 < sizeLine := by rw [sizeLine_eq]; omega
  generalize hρ : ([some (.im (pD ps ini)), none, none] : En) = σ
  have g1 : itA (ix (rd 0) (cst (.int 0))) σ = .ok (ps.map fun p => D.lst (p.map .int)) σ := by
    subst hρ
    rfl
  have g2 : itA (ix (rd 0) (cst (.int 1))) σ = .ok (ini.map D.int) σ := by
    subst hρ
    rfl
  have n2 : σ[2]? = some none := by subst hρ; rfl
  have n1 : σ[1]? = some none := by subst hρ; rfl
  have r2 : ∀ d, rd 2 (σ.set 2 (some (.im d))) = .ok d (σ.set 2 (some (.im d))) := by subst hρ; intro d; rfl
  have r1 : ∀ d, rd 1 (σ.set 1 (some (.im d))) = .ok d (σ.set 1 (some (.im d))) := by subst hρ; intro d; rfl
  have c1 := lc_map (f := itA (ix (rd 0) (cst (.int 0)))) (fe := cl1 (mkM 1 2 3 [.int 1] m_PolyD_initD) (aC (rd 2) aN)) (h := uh) g1 n2 (by rw [List.length_map]; omega) (by
    intro d hd
    obtain ⟨p, hp, rfl⟩ := List.mem_map.mp hd
    have e : aC (rd 2) aN (σ.set 2 (some (.im (D.lst (p.map .int))))) = .ok [D.lst (p.map .int)] (σ.set 2 (some (.im (D.lst (p.map .int))))) := by
      rw [aC, r2]
      rfl
    rw [cl1, e]
    rcases hs p hp with ⟨b, rfl, hb⟩ | ⟨b, a, rfl, hb, ha⟩
    · exact pol1 hb _
    · exact pol2 hb ha _)
  have c2 := lc_map (f := itA (ix (rd 0) (cst (.int 1)))) (fe := cl1 (mkM 0 2 3 [.int 1] m_FractionD_initD) (aC (rd 1) aN)) (h := uf) g2 n1 (by rw [List.length_map]; omega) (by
    intro d hd
    obtain ⟨z, hz, rfl⟩ := List.mem_map.mp hd
    have e : aC (rd 1) aN (σ.set 1 (some (.im (D.int z)))) = .ok [D.int z] (σ.set 1 (some (.im (D.int z)))) := by
      rw [aC, r1]
      rfl
    rw [cl1, e]
    exact mk1_run z _)
  have m1 : (ps.map fun p => D.lst (p.map .int)).map uh = qs.map poly := by
    rw [hq, List.map_map, List.map_map]
    refine List.map_congr_left fun p hp => ?_
    rcases hs p hp with ⟨b, rfl, hb⟩ | ⟨b, a, rfl, hb, ha⟩ <;> rfl
  have m2 : (ini.map D.int).map uf = ini.map fun z : Int => fr (z : Rat) := by
    rw [List.map_map]
    rfl
  rw [m1] at c1
  rw [m2] at c2
  have f1 : fz (nLc (itA (ix (rd 0) (cst (.int 0)))) (gN 2) always (cl1 (mkM 1 2 3 [.int 1] m_PolyD_initD) (aC (rd 2) aN)) [2]) σ = .ok (.lst (qs.map poly)) σ := by
    rw [fz, c1]
    rfl
  have f2 : fz (nLc (itA (ix (rd 0) (cst (.int 1)))) (gN 1) always (cl1 (mkM 0 2 3 [.int 1] m_FractionD_initD) (aC (rd 1) aN)) [1]) σ = .ok (.lst (ini.map fun z : Int => fr (z : Rat))) σ := by
    rw [fz, c2]
    rfl
  have f3 : cl1 (mkM 4 1 2 [] m_OperatorD_initD) (aC (fz (nLc (itA (ix (rd 0) (cst (.int 0)))) (gN 2) always (cl1 (mkM 1 2 3 [.int 1] m_PolyD_initD) (aC (rd 2) aN)) [2])) aN) σ = .ok (opD qs) σ := by
    rw [cl1, aC, f1]
    exact ho σ
  have f4 : aC (fz (nLc (itA (ix (rd 0) (cst (.int 1)))) (gN 1) always (cl1 (mkM 0 2 3 [.int 1] m_FractionD_initD) (aC (rd 1) aN)) [1])) aN σ = .ok [.lst (ini.map fun z : Int => fr (z : Rat))] σ := by
    rw [aC, f2]
    rfl
  have f5 : b__law_row σ = .rt (.ins 5 [opD qs, .tup (ini.map fun z : Int => fr (z : Rat))]) σ := by
    rw [b__law_row]
    refine sCons_rt ?_
    rw [sRet, cl1, aC, f3]
    simp only [Out.bind]
    rw [f4]
    simp only [Out.bind]
    rw [hr]
    rfl
  have e : rowD qs (ini.map fun z : Int => (z : Rat)) = .ins 5 [opD qs, .tup (ini.map fun z : Int => fr (z : Rat))] := by
    rw [rowD, List.map_map]
    rfl
  rw [e]
  subst hρ
  exact fn_rt (m := 3) ρ rfl f5
end K74
namespace K74
open PySem PySem.Spec PyProof.Rows L2 Ce
abbrev dC : En → Out Bool := tst (op2 iGt (rd 1) (cst (.int 0)))
abbrev dB : En → SOut := (sCons (sSet 2 (op2 iMod (cl1 (fun ds => opt (kInt ds)) (aC (rd 0) aN)) (rd 1))) (sCons (sSet 0 (rd 1)) (sCons (sSet 1 (rd 2)) sNil)))
theorem dC_run (a b : Nat) (x : Option O) : dC [some (.im (.int a)), some (.im (.int b)), x] = .ok (decide (0 < b)) [some (.im (.int a)), some (.im (.int b)), x] := by
  simp [dC, tst, op2, iGt, rd, cst, ii, opt, Out.bind]
theorem dB_run (a b : Nat) (h : b ≠ 0) (x : Option O) : dB [some (.im (.int a)), some (.im (.int b)), x] = .nx [some (.im (.int b)), some (.im (.int (a % b : Nat))), some (.im (.int (a % b : Nat)))] := by
  have h' : ¬ (b : Int) = 0 := by omega
  have e : (a : Int).fmod b = ((a % b : Nat) : Int) := by
    rw [Int.fmod_eq_emod_of_nonneg _ (by omega)]
    rfl
  simp [dB, sCons, sSet, op2, iMod, cl1, kInt, aC, aN, rd, ii, opt, Out.bind, Out.st, SOut.sq, sNil, h', h, e]
theorem gcd_go : ∀ (k a b fuel : Nat) (x : Option O), b < 2 ^ k → 2 * k + 1 ≤ fuel → ∃ y, whL dC dB fuel [some (.im (.int a)), some (.im (.int b)), x] = .nx [some (.im (.int (Nat.gcd a b : Nat))), some (.im (.int (0 : Nat))), y]
  | k, a, 0, fuel + 1, x, _, _ => ⟨x, by
    rw [whL, dC_run]
    simp [Out.st]⟩
  | 0, a, b + 1, fuel, x, h, _ => absurd h (by simp)
  | k + 1, a, b + 1, fuel + 2, x, h, hf => by
    have e1 : whL dC dB (fuel + 2) [some (.im (.int a)), some (.im (.int (b + 1 : Nat))), x] = whL dC dB (fuel + 1) [some (.im (.int (b + 1 : Nat))), some (.im (.int (a % (b + 1) : Nat))), some (.im (.int (a % (b + 1) : Nat)))] := by
      rw [whL, dC_run]
      simp only [Out.st, Nat.zero_lt_succ, decide_true]
      rw [dB_run _ _ (by omega)]
    rw [e1]
    have hr : a % (b + 1) < b + 1 := Nat.mod_lt _ (by omega)
    have g1 : Nat.gcd a (b + 1) = Nat.gcd (b + 1) (a % (b + 1)) := by
      rw [Nat.gcd_comm, Nat.gcd_rec, Nat.gcd_comm]
    rw [g1]
    generalize a % (b + 1) = r at *
    by_cases z : r = 0
    · subst z
      exact gcd_go k (b + 1) 0 (fuel + 1) _ (Nat.two_pow_pos k) (by omega)
    · have e2 : whL dC dB (fuel + 1) [some (.im (.int (b + 1 : Nat))), some (.im (.int r)), some (.im (.int r))] = whL dC dB fuel [some (.im (.int r)), some (.im (.int ((b + 1) % r : Nat))), some (.im (.int ((b + 1) % r : Nat)))] := by
        rw [whL, dC_run]
        have z' : 0 < r := by omega
        simp only [Out.st, z', decide_true]
        rw [dB_run _ _ z]
      rw [e2]
      have g2 : Nat.gcd (b + 1) r = Nat.gcd r ((b + 1) % r) := by
        rw [Nat.gcd_comm, Nat.gcd_rec, Nat.gcd_comm]
      rw [g2]
      have hs : (b + 1) % r < 2 ^ k := by
        have p2 : 2 ^ (k + 1) = 2 ^ k + 2 ^ k := by omega
        have m1 : (b + 1) % r < r := Nat.mod_lt _ (by omega)
        by_cases q : r ≤ 2 ^ k
        · omega
        · have : (b + 1) % r = b + 1 - r := by
            rw [Nat.mod_eq_sub_mod (by omega), Nat.mod_eq_of_lt (by omega)]
          omega
      exact gcd_go k r ((b + 1) % r) fuel _ hs (by omega)
end K74
namespace K74
open PySem PySem.Spec PyProof.Rows L2 Ce
theorem abs_if (i : Int) : (if i < 0 then -i else i) = (i.natAbs : Int) := by
  split <;> omega
theorem div_run (a b : Int) {k : Nat} (hb : nb b k) (hk : k < 100000000) (ρ : En) : fnM 2 [] m__law_divisor [.int a, .int b] ρ = .ok (.int (Nat.gcd a.natAbs b.natAbs : Nat)) ρ := by
  have lt : b.natAbs < 2 ^ (k + 1) := by
    unfold nb at hb
    have : 2 ^ (k + 1) = 2 ^ k + 2 ^ k := by omega
    have := Nat.two_pow_pos k
    omega
  obtain ⟨y, e⟩ := gcd_go (k + 1) a.natAbs b.natAbs 1000000000 none lt (by omega)
  have s0 : (sSet 0 (cl1 (fun ds => opt (k1 (fun i => .int (if i < 0 then -i else i)) ds)) (aC (rd 0) aN))) [some (.im (.int a)), some (.im (.int b)), none] = .nx [some (.im (.int a.natAbs)), some (.im (.int b)), none] := by
    rw [← abs_if]
    rfl
  have s1 : (sSet 1 (cl1 (fun ds => opt (k1 (fun i => .int (if i < 0 then -i else i)) ds)) (aC (rd 1) aN))) [some (.im (.int a.natAbs)), some (.im (.int b)), none] = .nx [some (.im (.int a.natAbs)), some (.im (.int b.natAbs)), none] := by
    rw [← abs_if b]
    rfl
  refine fn_rt (m := 3) (ρ' := [some (.im (.int (Nat.gcd a.natAbs b.natAbs : Nat))), some (.im (.int (0 : Nat))), y]) ρ rfl ?_
  show b__law_divisor [some (.im (.int a)), some (.im (.int b)), none] = _
  unfold b__law_divisor
  rw [sCons_nx s0, sCons_nx s1]
  refine (sCons_nx e).trans ?_
  rfl
end K74
namespace K74
open PySem PySem.Spec PyProof.Rows L2 Ce
theorem hv_tr {p : List Int} (h : shp p) (n : Int) : hv (tr p) n = p.foldr (fun c t => t * n + c) 0 := by
  rcases h with ⟨b, rfl, hb⟩ | ⟨b, a, rfl, hb, ha⟩
  · by_cases z : b = 0 <;> simp [tr, trim1, hv, z]
  · by_cases z : a = 0
    · by_cases y : b = 0 <;> simp [tr, trim2, hv, z, y]
    · simp [tr, trim2, hv, z]
theorem nb4 {a : Int} (h : -4 ≤ a ∧ a ≤ 4) : nb a 5 := by
  unfold nb
  omega
theorem shp_small {p : List Int} (h : shp p) : small (tr p) := by
  rcases h with ⟨b, rfl, hb⟩ | ⟨b, a, rfl, hb, ha⟩
  · by_cases z : b = 0
    · exact .inl (by simp [tr, trim1, z])
    · exact .inr (.inl ⟨b, by simp [tr, trim1, z], nb4 hb⟩)
  · by_cases z : a = 0
    · by_cases y : b = 0
      · exact .inl (by simp [tr, trim2, z, y])
      · exact .inr (.inl ⟨b, by simp [tr, trim2, z, y], nb4 hb⟩)
    · exact .inr (.inr ⟨b, a, by simp [tr, trim2, z], nb4 hb, nb4 ha⟩)
theorem hor_run {p : List Int} (h : shp p) (n : Int) (hn : nb n 5) (ρ : En) : fnM 2 [] m__law_horner [.lst (p.map .int), .int n] ρ = .ok (.int (hv (tr p) n)) ρ := by
  rw [hv_tr h]
  have m0 : mulOk 0 n = true := mulOk_nb (a := 0) (by unfold nb; decide) hn (by omega)
  rcases h with ⟨b, rfl, hb⟩ | ⟨b, a, rfl, hb, ha⟩
  · have r1 : itR1 (aC (vLen (vw 0)) aN) [some (.im (.lst [.int b])), some (.im (.int n)), some (.im (.int 0)), none] = .ok [.int 0] [some (.im (.lst [.int b])), some (.im (.int n)), some (.im (.int 0)), none] := itR1_ok (j := ((1 : Nat) : Int)) rfl (inR_nat 1 (by omega))
    have f : b__law_horner [some (.im (.lst [.int b])), some (.im (.int n)), none, none] = .rt (.int (0 * n + b)) [some (.im (.lst [.int b])), some (.im (.int n)), some (.im (.int (0 * n + b))), some (.im (.int 0))] := by
      simp [b__law_horner, sCons, sSet, sFor, r1, cst, Out.st, SOut.sq, forL, gN, op2, iAdd, iMul, iSub, ixV, vw, rd, vLen, ii, opt, Out.bind, m0, L2.atI, L2.ixN, sNil, sRet]
    exact fn_rt (m := 4) ρ rfl f
  · have m1 : mulOk a n = true := mulOk_nb (nb4 ha) hn (by omega)
    have r1 : itR1 (aC (vLen (vw 0)) aN) [some (.im (.lst [.int b, .int a])), some (.im (.int n)), some (.im (.int 0)), none] = .ok [.int 0, .int 1] [some (.im (.lst [.int b, .int a])), some (.im (.int n)), some (.im (.int 0)), none] := itR1_ok (j := ((2 : Nat) : Int)) rfl (inR_nat 2 (by omega))
    have f : b__law_horner [some (.im (.lst [.int b, .int a])), some (.im (.int n)), none, none] = .rt (.int ((0 * n + a) * n + b)) [some (.im (.lst [.int b, .int a])), some (.im (.int n)), some (.im (.int ((0 * n + a) * n + b))), some (.im (.int 1))] := by
      simp [b__law_horner, sCons, sSet, sFor, r1, cst, Out.st, SOut.sq, forL, gN, op2, iAdd, iMul, iSub, ixV, vw, rd, vLen, ii, opt, Out.bind, m0, m1, L2.atI, L2.ixN, sNil, sRet]
    exact fn_rt (m := 4) ρ rfl f
end K74
namespace K74
open PySem PySem.Spec PyProof.Rows L2 Ce
/-- the inner body of _law_values -/
def vI : En → SOut := (sCons (sSet 8 (op2 iSub (op2 iMul (rd 8) (ixV 3 (op2 iAdd (rd 7) (rd 10)))) (op2 iMul (op2 iMul (cl1 (fnM 2 [] m__law_horner) (aC (ix (ix (rd 0) (cst (.int 0))) (rd 10)) (aC (rd 7) aN))) (ixV 2 (op2 iAdd (rd 7) (rd 10)))) (rd 9)))) (sCons (sSet 9 (op2 iMul (rd 9) (ixV 3 (op2 iAdd (rd 7) (rd 10))))) sNil))
theorem itm_nat (ds : List D) (j : Nat) : itm (.lst ds) (.int (j : Int)) = ds[j]? := by
  show L2.atI ds (j : Int) = _
  exact Ce.atI_nat ds j
theorem vI_run (ps : List (List Int)) (ini T B : List Int) (p : List Int) (n j : Nat) (t b t8 t9 : Int) (x1 x4 x5 x6 x11 : Option O) (hp : ps[j]? = some p) (sp : shp p) (hn : n < 32) (ht : T[n + j]? = some t) (hb : B[n + j]? = some b) {k l : Nat} (nt : nb t k) (nbb : nb b k) (n8 : nb t8 l) (n9 : nb t9 l) (l1 : k < 1000000) (l2 : l < 1000000) :
    vI [some (.im (pD ps ini)), x1, some (.ol (T.map .int)), some (.ol (B.map .int)), x4, x5, x6, some (.im (.int n)), some (.im (.int t8)), some (.im (.int t9)), some (.im (.int j)), x11] = .nx [some (.im (pD ps ini)), x1, some (.ol (T.map .int)), some (.ol (B.map .int)), x4, x5, x6, some (.im (.int n)), some (.im (.int (t8 * b - hv (tr p) n * t * t9))), some (.im (.int (t9 * b))), some (.im (.int j)), x11] := by
  have hk : nb (n : Int) 5 := by unfold nb; omega
  have hh := nb_hv (shp_small sp) hk
  have m1 := mulOk_nb n8 nbb (by omega)
  have m2 := mulOk_nb hh nt (by omega)
  have m3 := mulOk_nb (hh.mul nt) n9 (by omega)
  have m4 := mulOk_nb n9 nbb (by omega)
  have a2 : L2.atI (T.map D.int) ((n : Int) + (j : Int)) = some (.int t) := by
    rw [← Int.natCast_add, Ce.atI_nat]
    simp [ht]
  have a3 : L2.atI (B.map D.int) ((n : Int) + (j : Int)) = some (.int b) := by
    rw [← Int.natCast_add, Ce.atI_nat]
    simp [hb]
  have i0 : itm (pD ps ini) (.int 0) = some (.lst (ps.map fun p => .lst (p.map .int))) := by rfl
  have i1 : itm (.lst (ps.map fun p => .lst (p.map D.int))) (.int (j : Int)) = some (.lst (p.map .int)) := by
    rw [itm_nat]
    simp [hp]
  have hr := fun ρ => hor_run sp (n : Int) hk ρ
  simp [vI, sCons, sSet, op2, rd, ixV, vw, iAdd, iMul, iSub, ii, opt, Out.bind, Out.st, SOut.sq, a2, a3, cl1, aC, aN, ix, i0, i1, cst, hr, m1, m2, m3, m4, sNil]
end K74
namespace K74
open PySem PySem.Spec PyProof.Rows L2 Ce
def vT : En → SOut := (sCons (sSet 9 (op2 iMul (rd 9) (cl1 (fnM 2 [] m__law_horner) (aC (ix (ix (rd 0) (cst (.int 0))) (rd 5)) (aC (rd 7) aN))))) (sCons (sSet 11 (cl1 (fnM 2 [] m__law_divisor) (aC (rd 8) (aC (rd 9) aN)))) (sCons (sApp 2 (op2 iDiv (rd 8) (rd 11))) (sCons (sApp 3 (op2 iDiv (rd 9) (rd 11))) sNil))))
def gd (x y : Int) : Int := (Nat.gcd x.natAbs y.natAbs : Nat)
theorem gd_ne {x y : Int} (h : y ≠ 0) : gd x y ≠ 0 := by
  have : Nat.gcd x.natAbs y.natAbs ≠ 0 := fun z => by
    have := Nat.eq_zero_of_gcd_eq_zero_right z
    omega
  unfold gd
  omega
theorem gd_nb {x y : Int} {k : Nat} (h : y ≠ 0) (b : nb y k) : nb (gd x y) k := by
  have l : Nat.gcd x.natAbs y.natAbs ≤ y.natAbs := Nat.le_of_dvd (by omega) (Nat.gcd_dvd_right _ _)
  unfold nb gd at *
  rw [Int.natAbs_natCast]
  omega
theorem vT_run (ps : List (List Int)) (ini T B : List Int) (p : List Int) (n o : Nat) (t8 t9 : Int) (x1 x4 x6 x10 x11 : Option O) (hp : ps[o]? = some p) (sp : shp p) (hn : n < 32) (lT : T.length < 100) (lB : B.length < 100) (h0 : t9 * hv (tr p) n ≠ 0) {l : Nat} (n9 : nb t9 l) (l2 : l < 5000) :
    vT [some (.im (pD ps ini)), x1, some (.ol (T.map .int)), some (.ol (B.map .int)), x4, some (.im (.int o)), x6, some (.im (.int n)), some (.im (.int t8)), some (.im (.int t9)), x10, x11] = .nx [some (.im (pD ps ini)), x1, some (.ol ((T ++ [t8.fdiv (gd t8 (t9 * hv (tr p) n))]).map .int)), some (.ol ((B ++ [(t9 * hv (tr p) n).fdiv (gd t8 (t9 * hv (tr p) n))]).map .int)), x4, some (.im (.int o)), x6, some (.im (.int n)), some (.im (.int t8)), some (.im (.int (t9 * hv (tr p) n))), x10, some (.im (.int (gd t8 (t9 * hv (tr p) n))))] := by
  have hk : nb (n : Int) 5 := by unfold nb; omega
  have hh := nb_hv (shp_small sp) hk
  have m1 := mulOk_nb n9 hh (by omega)
  have nD := n9.mul hh
  have i0 : itm (pD ps ini) (.int 0) = some (.lst (ps.map fun p => .lst (p.map .int))) := by rfl
  have i1 : itm (.lst (ps.map fun p => .lst (p.map D.int))) (.int (o : Int)) = some (.lst (p.map .int)) := by
    rw [itm_nat]
    simp [hp]
  have hr := fun ρ => hor_run sp (n : Int) hk ρ
  have hd := fun ρ => div_run t8 (t9 * hv (tr p) n) nD (by omega) ρ
  have e : ((Nat.gcd t8.natAbs (t9 * hv (tr p) n).natAbs : Nat) : Int) = gd t8 (t9 * hv (tr p) n) := rfl
  simp only [e] at hd
  have d1 : divOk (gd t8 (t9 * hv (tr p) n)) = true := divOk_nb (gd_ne h0) (gd_nb h0 nD) (by omega)
  have z1 : T.length < sizeLine := by rw [sizeLine_eq]; omega
  have z2 : B.length < sizeLine := by rw [sizeLine_eq]; omega
  simp [vT, sCons, sSet, sApp, op2, rd, vw, iMul, iDiv, ii, opt, Out.bind, Out.st, SOut.sq, cl1, aC, aN, ix, i0, i1, cst, hr, hd, m1, d1, z1, z2, sNil]
end K74
namespace K74
open PySem PySem.Spec PyProof.Rows L2 Ce
theorem gd_l (x y : Int) : gd x y ∣ x := Int.ofNat_dvd_left.mpr (Nat.gcd_dvd_left _ _)
theorem gd_r (x y : Int) : gd x y ∣ y := Int.ofNat_dvd_left.mpr (Nat.gcd_dvd_right _ _)
theorem gd_bd {x g : Int} {k : Nat} (d : g ∣ x) (g0 : g ≠ 0) (b : nb x k) : nb (x.fdiv g) k := by
  obtain ⟨c, rfl⟩ := d
  have e : (g * c).fdiv g = c := by
    rw [Int.mul_comm]
    exact Int.mul_fdiv_cancel c g0
  rw [e]
  unfold nb at *
  rw [Int.natAbs_mul] at b
  have := Nat.le_mul_of_pos_left c.natAbs (show 0 < g.natAbs by omega)
  omega
theorem gd_rat (x y : Int) (h : y ≠ 0) : y.fdiv (gd x y) ≠ 0 ∧ ((x.fdiv (gd x y) : Int) : Rat) / ((y.fdiv (gd x y) : Int) : Rat) = (x : Rat) / (y : Rat) := by
  have g0 := gd_ne (x := x) h
  obtain ⟨c, ec⟩ := gd_l x y
  obtain ⟨d, ed⟩ := gd_r x y
  generalize gd x y = g at *
  subst ec
  subst ed
  have e1 : (g * c).fdiv g = c := by rw [Int.mul_comm]; exact Int.mul_fdiv_cancel c g0
  have e2 : (g * d).fdiv g = d := by rw [Int.mul_comm]; exact Int.mul_fdiv_cancel d g0
  rw [e1, e2]
  refine ⟨fun z => h (by rw [z, Int.mul_zero]), ?_⟩
  have gr : (g : Rat) ≠ 0 := by exact_mod_cast g0
  rw [← Rat.divInt_eq_div, ← Rat.divInt_eq_div, Rat.divInt_mul_left g0]
end K74
namespace K74
open PySem PySem.Spec PyProof.Rows L2 Ce
/-- tops and belows tell the values -/
def Tell (T B : List Int) (S : List Rat) (k : Nat) : Prop := T.length = S.length ∧ B.length = S.length ∧ ∀ (i : Nat) (t b : Int) (v : Rat), T[i]? = some t → B[i]? = some b → S[i]? = some v → b ≠ 0 ∧ (t : Rat) / (b : Rat) = v ∧ nb t k ∧ nb b k
theorem Tell.push {T B : List Int} {S : List Rat} {k k' : Nat} (h : Tell T B S k) (l : k ≤ k') {t b : Int} {v : Rat} (hb : b ≠ 0) (hv : (t : Rat) / (b : Rat) = v) (nt : nb t k') (nbb : nb b k') : Tell (T ++ [t]) (B ++ [b]) (S ++ [v]) k' := by
  obtain ⟨h1, h2, h3⟩ := h
  refine ⟨by simp [h1], by simp [h2], fun i t' b' v' e1 e2 e3 => ?_⟩
  by_cases hi : i < S.length
  · rw [List.getElem?_append_left (by omega)] at e1 e2 e3
    obtain ⟨z1, z2, z3, z4⟩ := h3 i t' b' v' e1 e2 e3
    exact ⟨z1, z2, z3.mono l, z4.mono l⟩
  · have hi' : i = S.length := by
      have := (List.getElem?_eq_some_iff.mp e3).1
      simp at this
      omega
    subst hi'
    rw [← h1] at e1
    rw [← h2] at e2
    simp at e1 e2 e3
    subst e1 e2 e3
    exact ⟨hb, hv, nt, nbb⟩
/-- one turn's ratio -/
theorem turn_rat (t8 D : Int) {v : Rat} {k : Nat} (hD : D ≠ 0) (hv : (t8 : Rat) / (D : Rat) = v) (n8 : nb t8 k) (nD : nb D k) : (D.fdiv (gd t8 D) ≠ 0) ∧ ((t8.fdiv (gd t8 D) : Int) : Rat) / ((D.fdiv (gd t8 D) : Int) : Rat) = v ∧ nb (t8.fdiv (gd t8 D)) k ∧ nb (D.fdiv (gd t8 D)) k := by
  have g0 := gd_ne (x := t8) hD
  obtain ⟨z1, z2⟩ := gd_rat t8 D hD
  exact ⟨z1, z2.trans hv, gd_bd (gd_l _ _) g0 n8, gd_bd (gd_r _ _) g0 nD⟩
end K74
namespace K74
open PySem PySem.Spec PyProof.Rows L2 Ce
def vB : En → SOut := sCons (sSet 7 (op2 iSub (rd 6) (rd 5))) (sCons (sSet 8 (cst (.int 0))) (sCons (sSet 9 (cst (.int 1))) (sCons (sFor (itR1 (aC (rd 5) aN)) (gN 10) vI) vT)))
theorem rat1 (a q t b : Int) (hb : b ≠ 0) (hq : q ≠ 0) : ((0 * b - a * t * 1 : Int) : Rat) / ((1 * b * q : Int) : Rat) = -((0 + (a : Rat) * ((t : Rat) / (b : Rat))) / (q : Rat)) := by
  have hb' : (b : Rat) ≠ 0 := by exact_mod_cast hb
  have hq' : (q : Rat) ≠ 0 := by exact_mod_cast hq
  push_cast
  generalize (b : Rat) = b at *
  generalize (q : Rat) = q at *
  generalize (a : Rat) = a at *
  generalize (t : Rat) = t at *
  grind
theorem val1 (p q : List Int) (sp : shp p) (sq : shp q) (ini T B : List Int) (S : List Rat) (n k : Nat) (hn : n < 32) (hS : S.length = n + 1) (hT : Tell T B S k) (hk : k < 2000) (hz : hv (tr q) n ≠ 0) (x4 x7 x8 x9 x10 x11 : Option O) :
    ∃ T' B' y7 y8 y9 y10 y11, Tell T' B' (st1 (tr p) (tr q) S) (k + 13) ∧ vB [some (.im (pD [p, q] ini)), some (.im (.int 14)), some (.ol (T.map .int)), some (.ol (B.map .int)), x4, some (.im (.int 1)), some (.im (.int (n + 1 : Nat))), x7, x8, x9, x10, x11] = .nx [some (.im (pD [p, q] ini)), some (.im (.int 14)), some (.ol (T'.map .int)), some (.ol (B'.map .int)), x4, some (.im (.int 1)), some (.im (.int (n + 1 : Nat))), y7, y8, y9, y10, y11] := by
  obtain ⟨lT, lB, ht⟩ := hT
  have iT : n < T.length := by omega
  have iB : n < B.length := by omega
  have iS : n < S.length := by omega
  obtain ⟨b0, br, nt, nbb⟩ := ht n _ _ _ (List.getElem?_eq_getElem iT) (List.getElem?_eq_getElem iB) (List.getElem?_eq_getElem iS)
  generalize et : T[n] = t at *
  generalize eb : B[n] = b at *
  have bt := ht n t b S[n] (by rw [← et]; exact List.getElem?_eq_getElem iT) (by rw [← eb]; exact List.getElem?_eq_getElem iB) (List.getElem?_eq_getElem iS)
  have hkk : nb (n : Int) 5 := by unfold nb; omega
  have np := nb_hv (shp_small sp) hkk
  have nq := nb_hv (shp_small sq) hkk
  have o1 : nb (1 : Int) 0 := by unfold nb; decide
  have o0 : nb (0 : Int) 0 := by unfold nb; decide
  have n8 : nb (0 * b - hv (tr p) n * t * 1) (k + 13) := (((o0.mul nbb).mono (by omega)).sub (((np.mul nt).mul o1).mono (show 11 + k + 0 ≤ k + 12 by omega))).mono (by omega)
  have nD : nb (1 * b * hv (tr q) n) (k + 13) := ((o1.mul nbb).mul nq).mono (by omega)
  have D0 : 1 * b * hv (tr q) n ≠ 0 := Int.mul_ne_zero (by omega) hz
  have rr := rat1 (hv (tr p) n) (hv (tr q) n) t b b0 hz
  rw [br] at rr
  obtain ⟨q1, q2, q3, q4⟩ := turn_rat (0 * b - hv (tr p) n * t * 1) (1 * b * hv (tr q) n) D0 rr n8 nD
  have gS : S.getD (S.length - 1) 0 = S[n] := by
    have : S.length - 1 = n := by omega
    rw [this]
    simp [List.getD, iS]
  have eS : st1 (tr p) (tr q) S = S ++ [-((0 + (hv (tr p) n : Rat) * S[n]) / (hv (tr q) n : Rat))] := by
    have : S.length - 1 = n := by omega
    rw [st1, gS, this]
  have P := Tell.push ⟨lT, lB, ht⟩ (show k ≤ k + 13 by omega) q1 q2 q3 q4
  have w1 := vI_run [p, q] ini T B p n 0 t b 0 1 (some (.im (.int 14))) x4 (some (.im (.int 1))) (some (.im (.int (n + 1 : Nat)))) x11 rfl sp hn (by rw [← et]; exact List.getElem?_eq_getElem iT) (by rw [← eb]; exact List.getElem?_eq_getElem iB) nt nbb (l := 0) o0 o1 (by omega) (by omega)
  have w2 := vT_run [p, q] ini T B q n 1 (0 * b - hv (tr p) n * t * 1) (1 * b) (some (.im (.int 14))) x4 (some (.im (.int (n + 1 : Nat)))) (some (.im (.int (0 : Nat)))) x11 rfl sq hn (by omega) (by omega) D0 (o1.mul nbb) (by omega)
  rw [eS]
  refine ⟨_, _, some (.im (.int n)), some (.im (.int (0 * b - hv (tr p) n * t * 1))), some (.im (.int (1 * b * hv (tr q) n))), some (.im (.int (0 : Nat))), some (.im (.int (gd (0 * b - hv (tr p) n * t * 1) (1 * b * hv (tr q) n)))), P, ?_⟩
  have h7 : (sSet 7 (op2 iSub (rd 6) (rd 5))) [some (.im (pD [p, q] ini)), some (.im (.int 14)), some (.ol (T.map .int)), some (.ol (B.map .int)), x4, some (.im (.int 1)), some (.im (.int (n + 1 : Nat))), x7, x8, x9, x10, x11] = .nx [some (.im (pD [p, q] ini)), some (.im (.int 14)), some (.ol (T.map .int)), some (.ol (B.map .int)), x4, some (.im (.int 1)), some (.im (.int (n + 1 : Nat))), some (.im (.int n)), x8, x9, x10, x11] := by
    simp [sSet, op2, rd, iSub, ii, opt, Out.bind, Out.st]
  have h10 : (sFor (itR1 (aC (rd 5) aN)) (gN 10) vI) [some (.im (pD [p, q] ini)), some (.im (.int 14)), some (.ol (T.map .int)), some (.ol (B.map .int)), x4, some (.im (.int 1)), some (.im (.int (n + 1 : Nat))), some (.im (.int n)), some (.im (.int 0)), some (.im (.int 1)), x10, x11] = .nx [some (.im (pD [p, q] ini)), some (.im (.int 14)), some (.ol (T.map .int)), some (.ol (B.map .int)), x4, some (.im (.int 1)), some (.im (.int (n + 1 : Nat))), some (.im (.int n)), some (.im (.int (0 * b - hv (tr p) n * t * 1))), some (.im (.int (1 * b))), some (.im (.int (0 : Nat))), x11] := by
    have f1 : itR1 (aC (rd 5) aN) [some (.im (pD [p, q] ini)), some (.im (.int 14)), some (.ol (T.map .int)), some (.ol (B.map .int)), x4, some (.im (.int 1)), some (.im (.int (n + 1 : Nat))), some (.im (.int n)), some (.im (.int 0)), some (.im (.int 1)), x10, x11] = .ok [.int (0 : Nat)] [some (.im (pD [p, q] ini)), some (.im (.int 14)), some (.ol (T.map .int)), some (.ol (B.map .int)), x4, some (.im (.int 1)), some (.im (.int (n + 1 : Nat))), some (.im (.int n)), some (.im (.int 0)), some (.im (.int 1)), x10, x11] := by rfl
    unfold sFor
    rw [f1]
    simp only [Out.st, forL, gN, List.set_cons_succ, List.set_cons_zero]
    rw [w1]
  unfold vB
  rw [sCons_nx h7]
  refine (sCons_nx (ρ1 := [some (.im (pD [p, q] ini)), some (.im (.int 14)), some (.ol (T.map .int)), some (.ol (B.map .int)), x4, some (.im (.int 1)), some (.im (.int (n + 1 : Nat))), some (.im (.int n)), some (.im (.int 0)), x9, x10, x11]) rfl).trans ?_
  refine (sCons_nx (ρ1 := [some (.im (pD [p, q] ini)), some (.im (.int 14)), some (.ol (T.map .int)), some (.ol (B.map .int)), x4, some (.im (.int 1)), some (.im (.int (n + 1 : Nat))), some (.im (.int n)), some (.im (.int 0)), some (.im (.int 1)), x10, x11]) rfl).trans ?_
  rw [sCons_nx h10]
  exact w2
end K74
namespace K74
open PySem PySem.Spec PyProof.Rows L2 Ce
theorem rat2 (a a' q t u b c : Int) (hb : b ≠ 0) (hc : c ≠ 0) (hq : q ≠ 0) : (((0 * b - a * t * 1) * c - a' * u * (1 * b) : Int) : Rat) / ((1 * b * c * q : Int) : Rat) = -((0 + (a : Rat) * ((t : Rat) / (b : Rat)) + (a' : Rat) * ((u : Rat) / (c : Rat))) / (q : Rat)) := by
  have hb' : (b : Rat) ≠ 0 := by exact_mod_cast hb
  have hc' : (c : Rat) ≠ 0 := by exact_mod_cast hc
  have hq' : (q : Rat) ≠ 0 := by exact_mod_cast hq
  push_cast
  generalize (b : Rat) = b at *
  generalize (c : Rat) = c at *
  generalize (q : Rat) = q at *
  generalize (a : Rat) = a at *
  generalize (a' : Rat) = a' at *
  generalize (t : Rat) = t at *
  generalize (u : Rat) = u at *
  grind
def Tell2 (T B : List Int) (S : List Rat) (k : Nat) : Prop := Tell T B S k ∧ ∀ b ∈ B, nb b 0
theorem one_hv (n : Int) : hv (tr [1]) n = 1 := by
  have e : tr [1] = [1] := by decide
  rw [e]
  simp [hv]
theorem shp1 : shp [1] := .inl ⟨1, rfl, by omega, by omega⟩
theorem val2 (p q : List Int) (sp : shp p) (sq : shp q) (ini T B : List Int) (S : List Rat) (n k : Nat) (hn : n < 32) (hS : S.length = n + 2) (hT : Tell2 T B S k) (hk : k < 2000) (x4 x7 x8 x9 x10 x11 : Option O) :
    ∃ T' B' y7 y8 y9 y10 y11, Tell2 T' B' (st2 (tr p) (tr q) [1] S) (k + 13) ∧ vB [some (.im (pD [p, q, [1]] ini)), some (.im (.int 14)), some (.ol (T.map .int)), some (.ol (B.map .int)), x4, some (.im (.int 2)), some (.im (.int (n + 2 : Nat))), x7, x8, x9, x10, x11] = .nx [some (.im (pD [p, q, [1]] ini)), some (.im (.int 14)), some (.ol (T'.map .int)), some (.ol (B'.map .int)), x4, some (.im (.int 2)), some (.im (.int (n + 2 : Nat))), y7, y8, y9, y10, y11] := by
  obtain ⟨⟨lT, lB, ht⟩, hB⟩ := hT
  have iT : n < T.length := by omega
  have iB : n < B.length := by omega
  have iS : n < S.length := by omega
  have iT1 : n + 1 < T.length := by omega
  have iB1 : n + 1 < B.length := by omega
  have iS1 : n + 1 < S.length := by omega
  have eT0 := List.getElem?_eq_getElem iT
  have eT1 := List.getElem?_eq_getElem iT1
  have eB0 := List.getElem?_eq_getElem iB
  have eB1 := List.getElem?_eq_getElem iB1
  have nb0 := hB _ (List.getElem_mem iB)
  have nb1 := hB _ (List.getElem_mem iB1)
  obtain ⟨b0, br, nt, -⟩ := ht n _ _ _ eT0 eB0 (List.getElem?_eq_getElem iS)
  obtain ⟨c0, cr, nu, -⟩ := ht (n + 1) _ _ _ eT1 eB1 (List.getElem?_eq_getElem iS1)
  generalize T[n] = t at *
  generalize B[n] = b at *
  generalize T[n + 1] = u at *
  generalize B[n + 1] = c at *
  have hkk : nb (n : Int) 5 := by unfold nb; omega
  have np := nb_hv (shp_small sp) hkk
  have nq := nb_hv (shp_small sq) hkk
  have o1 : nb (1 : Int) 0 := by unfold nb; decide
  have o0 : nb (0 : Int) 0 := by unfold nb; decide
  have n8 : nb (0 * b - hv (tr p) n * t * 1) (k + 12) := ((o0.mul nb0).mono (show 0 + 0 ≤ k + 11 by omega)).sub (((np.mul nt).mul o1).mono (show 11 + k + 0 ≤ k + 11 by omega))
  have n9 : nb (1 * b) 0 := (o1.mul nb0).mono (by omega)
  have n8' : nb ((0 * b - hv (tr p) n * t * 1) * c - hv (tr q) n * u * (1 * b)) (k + 13) := ((n8.mul nb1).mono (show k + 12 + 0 ≤ k + 12 by omega)).sub (((nq.mul nu).mul n9).mono (show 11 + k + 0 ≤ k + 12 by omega))
  have n9' : nb (1 * b * c) 0 := (n9.mul nb1).mono (by omega)
  have e1 := one_hv (n : Int)
  have D0 : 1 * b * c * hv (tr [1]) n ≠ 0 := by
    rw [e1]
    exact Int.mul_ne_zero (Int.mul_ne_zero (by omega) c0) (by omega)
  have nD : nb (1 * b * c * hv (tr [1]) n) 0 := by
    rw [e1]
    exact (n9'.mul o1).mono (by omega)
  have rr := rat2 (hv (tr p) n) (hv (tr q) n) (hv (tr [1]) n) t u b c b0 c0 (by rw [e1]; omega)
  rw [br, cr] at rr
  obtain ⟨q1, q2, q3, q4⟩ := turn_rat ((0 * b - hv (tr p) n * t * 1) * c - hv (tr q) n * u * (1 * b)) (1 * b * c * hv (tr [1]) n) D0 rr n8' (nD.mono (by omega))
  have q5 := gd_bd (gd_r ((0 * b - hv (tr p) n * t * 1) * c - hv (tr q) n * u * (1 * b)) (1 * b * c * hv (tr [1]) n)) (gd_ne D0) nD
  have gS : S.getD (S.length - 2) 0 = S[n] := by
    have : S.length - 2 = n := by omega
    rw [this]
    simp [List.getD, iS]
  have gS1 : S.getD (S.length - 1) 0 = S[n + 1] := by
    have : S.length - 1 = n + 1 := by omega
    rw [this]
    simp [List.getD, iS1]
  have t1 : tr [1] = [1] := by decide
  have eS : st2 (tr p) (tr q) [1] S = S ++ [-((0 + (hv (tr p) n : Rat) * S[n] + (hv (tr q) n : Rat) * S[n + 1]) / (hv (tr [1]) n : Rat))] := by
    have : S.length - 2 = n := by omega
    rw [st2, gS, gS1, this, t1]
  have P := Tell.push ⟨lT, lB, ht⟩ (show k ≤ k + 13 by omega) q1 q2 q3 q4
  have w1 := vI_run [p, q, [1]] ini T B p n 0 t b 0 1 (some (.im (.int 14))) x4 (some (.im (.int 2))) (some (.im (.int (n + 2 : Nat)))) x11 rfl sp hn eT0 eB0 nt (nb0.mono (show 0 ≤ k by omega)) (l := 0) o0 o1 (by omega) (by omega)
  have w1' := vI_run [p, q, [1]] ini T B q n 1 u c (0 * b - hv (tr p) n * t * 1) (1 * b) (some (.im (.int 14))) x4 (some (.im (.int 2))) (some (.im (.int (n + 2 : Nat)))) x11 rfl sq hn eT1 eB1 nu (nb1.mono (show 0 ≤ k by omega)) n8 (n9.mono (show 0 ≤ k + 12 by omega)) (by omega) (by omega)
  have w2 := vT_run [p, q, [1]] ini T B [1] n 2 ((0 * b - hv (tr p) n * t * 1) * c - hv (tr q) n * u * (1 * b)) (1 * b * c) (some (.im (.int 14))) x4 (some (.im (.int (n + 2 : Nat)))) (some (.im (.int (1 : Nat)))) x11 rfl shp1 hn (by omega) (by omega) D0 n9' (by omega)
  rw [eS]
  refine ⟨_, _, some (.im (.int n)), some (.im (.int ((0 * b - hv (tr p) n * t * 1) * c - hv (tr q) n * u * (1 * b)))), some (.im (.int (1 * b * c * hv (tr [1]) n))), some (.im (.int (1 : Nat))), some (.im (.int (gd ((0 * b - hv (tr p) n * t * 1) * c - hv (tr q) n * u * (1 * b)) (1 * b * c * hv (tr [1]) n)))), ⟨P, ?_⟩, ?_⟩
  · intro b' m
    rcases List.mem_append.mp m with m | m
    · exact hB b' m
    · rw [List.mem_singleton.mp m]
      exact q5
  have h7 : (sSet 7 (op2 iSub (rd 6) (rd 5))) [some (.im (pD [p, q, [1]] ini)), some (.im (.int 14)), some (.ol (T.map .int)), some (.ol (B.map .int)), x4, some (.im (.int 2)), some (.im (.int (n + 2 : Nat))), x7, x8, x9, x10, x11] = .nx [some (.im (pD [p, q, [1]] ini)), some (.im (.int 14)), some (.ol (T.map .int)), some (.ol (B.map .int)), x4, some (.im (.int 2)), some (.im (.int (n + 2 : Nat))), some (.im (.int n)), x8, x9, x10, x11] := by
    simp [sSet, op2, rd, iSub, ii, opt, Out.bind, Out.st]
  have h10 : (sFor (itR1 (aC (rd 5) aN)) (gN 10) vI) [some (.im (pD [p, q, [1]] ini)), some (.im (.int 14)), some (.ol (T.map .int)), some (.ol (B.map .int)), x4, some (.im (.int 2)), some (.im (.int (n + 2 : Nat))), some (.im (.int n)), some (.im (.int 0)), some (.im (.int 1)), x10, x11] = .nx [some (.im (pD [p, q, [1]] ini)), some (.im (.int 14)), some (.ol (T.map .int)), some (.ol (B.map .int)), x4, some (.im (.int 2)), some (.im (.int (n + 2 : Nat))), some (.im (.int n)), some (.im (.int ((0 * b - hv (tr p) n * t * 1) * c - hv (tr q) n * u * (1 * b)))), some (.im (.int (1 * b * c))), some (.im (.int (1 : Nat))), x11] := by
    have f1 : itR1 (aC (rd 5) aN) [some (.im (pD [p, q, [1]] ini)), some (.im (.int 14)), some (.ol (T.map .int)), some (.ol (B.map .int)), x4, some (.im (.int 2)), some (.im (.int (n + 2 : Nat))), some (.im (.int n)), some (.im (.int 0)), some (.im (.int 1)), x10, x11] = .ok [.int (0 : Nat), .int (1 : Nat)] [some (.im (pD [p, q, [1]] ini)), some (.im (.int 14)), some (.ol (T.map .int)), some (.ol (B.map .int)), x4, some (.im (.int 2)), some (.im (.int (n + 2 : Nat))), some (.im (.int n)), some (.im (.int 0)), some (.im (.int 1)), x10, x11] := by rfl
    unfold sFor
    rw [f1]
    simp only [Out.st, forL, gN, List.set_cons_succ, List.set_cons_zero]
    rw [w1]
    simp only [List.set_cons_succ, List.set_cons_zero]
    rw [w1']
  unfold vB
  rw [sCons_nx h7]
  refine (sCons_nx (ρ1 := [some (.im (pD [p, q, [1]] ini)), some (.im (.int 14)), some (.ol (T.map .int)), some (.ol (B.map .int)), x4, some (.im (.int 2)), some (.im (.int (n + 2 : Nat))), some (.im (.int n)), some (.im (.int 0)), x9, x10, x11]) rfl).trans ?_
  refine (sCons_nx (ρ1 := [some (.im (pD [p, q, [1]] ini)), some (.im (.int 14)), some (.ol (T.map .int)), some (.ol (B.map .int)), x4, some (.im (.int 2)), some (.im (.int (n + 2 : Nat))), some (.im (.int n)), some (.im (.int 0)), some (.im (.int 1)), x10, x11]) rfl).trans ?_
  rw [sCons_nx h10]
  exact w2
end K74
namespace K74
open PySem PySem.Spec PyProof.Rows L2 Ce
theorem ones_run (d : D) (x1 : Option O) (ini : List Int) (h1 : 1 ≤ ini.length) (h5 : ini.length ≤ 5) : (sSetN 3 (nLcH 2 (gN 4) always (cst (.int 1)) [4])) [some (.im d), x1, some (.ol (ini.map .int)), none, none, none, none, none, none, none, none, none] = .nx [some (.im d), x1, some (.ol (ini.map .int)), some (.ol ((ini.map fun _ => (1 : Int)).map .int)), none, none, none, none, none, none, none, none] := by
  match ini, h1, h5 with
  | [a], _, _ => kernel_rfl
  | [a, b], _, _ => kernel_rfl
  | [a, b, c], _, _ => kernel_rfl
  | [a, b, c, e], _, _ => kernel_rfl
  | [a, b, c, e, f], _, _ => kernel_rfl
theorem values_gen (ps : List (List Int)) (ini : List Int) (o : Nat) (Q : Nat → List Int → List Int → Prop) (h1 : 1 ≤ ini.length) (h5 : ini.length ≤ 5) (hps : ps.length = o + 1) (h0 : Q 0 ini (ini.map fun _ => (1 : Int)))
    (hQ : ∀ j T B, Q j T B → T.length = ini.length + j)
    (ht : ∀ j T B, Q j T B → ini.length + j < 14 → ∀ x4 x7 x8 x9 x10 x11, ∃ T' B' y7 y8 y9 y10 y11, Q (j + 1) T' B' ∧ vB [some (.im (pD ps ini)), some (.im (.int 14)), some (.ol (T.map .int)), some (.ol (B.map .int)), x4, some (.im (.int o)), some (.im (.int (ini.length + j : Nat))), x7, x8, x9, x10, x11] = .nx [some (.im (pD ps ini)), some (.im (.int 14)), some (.ol (T'.map .int)), some (.ol (B'.map .int)), x4, some (.im (.int o)), some (.im (.int (ini.length + j : Nat))), y7, y8, y9, y10, y11]) :
    ∃ T B, Q (14 - ini.length) T B ∧ ∀ ρ, fnM 2 [] m__law_values [pD ps ini, .int 14] ρ = .ok (.lst [.lst (T.map .int), .lst (B.map .int)]) ρ := by
  have e2 : (sSetN 2 (nList (ix (rd 0) (cst (.int 1))))) [some (.im (pD ps ini)), some (.im (.int 14)), none, none, none, none, none, none, none, none, none, none] = .nx [some (.im (pD ps ini)), some (.im (.int 14)), some (.ol (ini.map .int)), none, none, none, none, none, none, none, none, none] := by rfl
  have e3 := ones_run (pD ps ini) (some (.im (.int 14))) ini h1 h5
  have e5 : (sSet 5 (op2 iSub (cl1 (fun ds => opt (kLen ds)) (aC (ix (rd 0) (cst (.int 0))) aN)) (cst (.int 1)))) [some (.im (pD ps ini)), some (.im (.int 14)), some (.ol (ini.map .int)), some (.ol ((ini.map fun _ => (1 : Int)).map .int)), none, none, none, none, none, none, none, none] = .nx [some (.im (pD ps ini)), some (.im (.int 14)), some (.ol (ini.map .int)), some (.ol ((ini.map fun _ => (1 : Int)).map .int)), none, some (.im (.int o)), none, none, none, none, none, none] := by
    have i0 : itm (pD ps ini) (.int 0) = some (.lst (ps.map fun p => .lst (p.map .int))) := by rfl
    simp [sSet, op2, cl1, aC, aN, ix, rd, cst, i0, kLen, iSub, ii, opt, Out.bind, Out.st, hps]
  have e6 : itR2 (aC (vLen (vw 2)) (aC (rd 1) aN)) [some (.im (pD ps ini)), some (.im (.int 14)), some (.ol (ini.map .int)), some (.ol ((ini.map fun _ => (1 : Int)).map .int)), none, some (.im (.int o)), none, none, none, none, none, none] = .ok (rngD (ini.length : Nat) 1 (14 - ini.length)) [some (.im (pD ps ini)), some (.im (.int 14)), some (.ol (ini.map .int)), some (.ol ((ini.map fun _ => (1 : Int)).map .int)), none, some (.im (.int o)), none, none, none, none, none, none] := by
    have z := rng2 [some (.im (pD ps ini)), some (.im (.int 14)), some (.ol (ini.map .int)), some (.ol ((ini.map fun _ => (1 : Int)).map .int)), none, some (.im (.int o)), none, none, none, none, none, none] (ini.map .int) 14 (by omega) (by rw [List.length_map]; omega) rfl rfl
    rw [List.length_map] at z
    exact z
  obtain ⟨ρ', e7, T, B, x4, x6, x7, x8, x9, x10, x11, q, e8⟩ := forL_inv (g := gN 6) (b := vB) (fun k ρ => ∃ T B x4 x6 x7 x8 x9 x10 x11, Q k T B ∧ ρ = [some (.im (pD ps ini)), some (.im (.int 14)), some (.ol (T.map .int)), some (.ol (B.map .int)), x4, some (.im (.int o)), x6, x7, x8, x9, x10, x11]) (rngD (ini.length : Nat) 1 (14 - ini.length)) 0 [some (.im (pD ps ini)), some (.im (.int 14)), some (.ol (ini.map .int)), some (.ol ((ini.map fun _ => (1 : Int)).map .int)), none, some (.im (.int o)), none, none, none, none, none, none] ⟨_, _, _, _, _, _, _, _, _, h0, rfl⟩ (by
    rintro j d ρ1 hj ⟨T, B, x4, x6, x7, x8, x9, x10, x11, q, rfl⟩
    obtain ⟨hj, rfl⟩ := rng_at hj
    rw [Nat.zero_add] at q ⊢
    obtain ⟨T', B', y7, y8, y9, y10, y11, q', z⟩ := ht j T B q (by omega) x4 x7 x8 x9 x10 x11
    exact ⟨_, _, rfl, by rw [Int.natCast_add] at z; exact z, _, _, _, _, _, _, _, _, _, q', rfl⟩)
  rw [rngD_len, Nat.zero_add] at q
  subst e8
  refine ⟨T, B, q, fun ρ => ?_⟩
  have sz : 100 < sizeLine := by rw [sizeLine_eq]; omega
  have e9 : b__law_values [some (.im (pD ps ini)), some (.im (.int 14)), none, none, none, none, none, none, none, none, none, none] = .rt (.lst [.lst (T.map .int), .lst (B.map .int)]) [some (.im (pD ps ini)), some (.im (.int 14)), some (.im (.lst (T.map .int))), some (.im (.lst (B.map .int))), x4, some (.im (.int o)), x6, x7, x8, x9, x10, x11] := by
    have f1 : (sFor (itR2 (aC (vLen (vw 2)) (aC (rd 1) aN))) (gN 6) vB) [some (.im (pD ps ini)), some (.im (.int 14)), some (.ol (ini.map .int)), some (.ol ((ini.map fun _ => (1 : Int)).map .int)), none, some (.im (.int o)), none, none, none, none, none, none] = .nx [some (.im (pD ps ini)), some (.im (.int 14)), some (.ol (T.map .int)), some (.ol (B.map .int)), x4, some (.im (.int o)), x6, x7, x8, x9, x10, x11] := by
      rw [sFor, e6]
      exact e7
    have f2 : (sRet (fz (nLst (aC (rd 2) (aC (rd 3) aN))))) [some (.im (pD ps ini)), some (.im (.int 14)), some (.ol (T.map .int)), some (.ol (B.map .int)), x4, some (.im (.int o)), x6, x7, x8, x9, x10, x11] = .rt (.lst [.lst (T.map .int), .lst (B.map .int)]) [some (.im (pD ps ini)), some (.im (.int 14)), some (.im (.lst (T.map .int))), some (.im (.lst (B.map .int))), x4, some (.im (.int o)), x6, x7, x8, x9, x10, x11] := by
      have hs : 2 ≤ sizeLine := by omega
      simp [sRet, fz, nLst, aC, aN, rd, Out.bind, Out.st, hs]
    unfold b__law_values
    rw [sCons_nx e2, sCons_nx e3, sCons_nx e5]
    refine (sCons_nx f1).trans ?_
    exact sCons_rt f2
  exact fn_rt (m := 12) ρ rfl e9
def Good (d r : D) (S : List Rat) (T B : List Int) : Prop :=
  S.length = 14 ∧ Tell T B S 500 ∧ (∃ o i, r = .ins 5 [o, .tup i]) ∧ (∀ ρ, fnM 1 [] m__law_row [d] ρ = .ok r ρ) ∧ (∀ (c : Nat) (ρ : En), c ≤ 14 → fnM 2 [] m_Row_prefix [r, .int c] ρ = .ok (.lst ((S.take c).map fr)) ρ) ∧ ∀ ρ, fnM 2 [] m__law_values [d, .int 14] ρ = .ok (.lst [.lst (T.map .int), .lst (B.map .int)]) ρ
theorem tell0 (ini : List Int) (hi : ∀ z ∈ ini, -4 ≤ z ∧ z ≤ 10) : Tell ini (ini.map fun _ => (1 : Int)) (ini.map fun z : Int => (z : Rat)) 5 := by
  refine ⟨by simp, by simp, fun i t b v e1 e2 e3 => ?_⟩
  rw [List.getElem?_map, e1] at e2 e3
  simp at e2 e3
  subst e2 e3
  have m := hi t (List.mem_of_getElem? e1)
  refine ⟨by omega, by rw [show ((1 : Int) : Rat) = 1 by rfl]; grind, by unfold nb; omega, by unfold nb; decide⟩
theorem Tell.mono {T B : List Int} {S : List Rat} {k k' : Nat} (h : Tell T B S k) (l : k ≤ k') : Tell T B S k' := by
  obtain ⟨h1, h2, h3⟩ := h
  refine ⟨h1, h2, fun i t b v e1 e2 e3 => ?_⟩
  obtain ⟨z1, z2, z3, z4⟩ := h3 i t b v e1 e2 e3
  exact ⟨z1, z2, z3.mono l, z4.mono l⟩
theorem qb10 {z : Int} (h : -4 ≤ z ∧ z ≤ 10) : qb (z : Rat) 5 0 := qb_int (by unfold nb; omega)
theorem good1 (p q : List Int) (sp : shp p) (sq : shp q) (ini : List Int) (h1 : 1 ≤ ini.length) (h5 : ini.length ≤ 5) (hi : ∀ z ∈ ini, -4 ≤ z ∧ z ≤ 10) (hz : ∀ n : Nat, ini.length ≤ n + 1 → n < 32 → hv (tr q) n ≠ 0)
    (ho : ∀ ρ, mkM 4 1 2 [] m_OperatorD_initD [.lst ([tr p, tr q].map poly)] ρ = .ok (opD [tr p, tr q]) ρ) (hr : ∀ ρ, mkM 5 2 3 [] m_RowD_initD [opD [tr p, tr q], .lst (ini.map fun z : Int => fr (z : Rat))] ρ = .ok (.ins 5 [opD [tr p, tr q], .tup (ini.map fun z : Int => fr (z : Rat))]) ρ) : ∃ r S T B, Good (pD [p, q] ini) r S T B := by
  have hl : (ini.map fun z : Int => (z : Rat)).length = ini.length := List.length_map _
  obtain ⟨T, B, q1, q2⟩ := values_gen [p, q] ini 1 (fun j T B => Tell T B (it1 (tr p) (tr q) (ini.map fun z : Int => (z : Rat)) j) (5 + 13 * j)) h1 h5 rfl (tell0 ini hi) (fun j T B h => by rw [h.1, it1_len, hl]) (fun j T B h hj x4 x7 x8 x9 x10 x11 => by
    have z := val1 p q sp sq ini T B (it1 (tr p) (tr q) (ini.map fun z : Int => (z : Rat)) j) (ini.length + j - 1) (5 + 13 * j) (by omega) (by rw [it1_len, hl]; omega) h (by omega) (hz _ (by omega) (by omega)) x4 x7 x8 x9 x10 x11
    rw [show ini.length + j - 1 + 1 = ini.length + j by omega] at z
    exact z)
  refine ⟨_, it1 (tr p) (tr q) (ini.map fun z : Int => (z : Rat)) (14 - ini.length), T, B, by rw [it1_len, hl]; omega, q1.mono (by omega), ⟨_, _, rfl⟩, fun ρ => row_gen (ps := [p, q]) rfl (by
    intro x m
    rcases List.mem_cons.mp m with rfl | m
    · exact sp
    · rw [List.mem_singleton.mp m]
      exact sq) (by simp) h5 ho hr ρ, fun c ρ hc => ?_, q2⟩
  have z := prefix1 (tr p) (tr q) (shp_small sp) (shp_small sq) (ini.map fun z : Int => (z : Rat)) (by intro e; rw [e] at hl; simp at hl; omega) (by rw [hl]; exact h5) (fun v m => by
    obtain ⟨y, hm, rfl⟩ := List.mem_map.mp m
    exact qb10 (hi y hm)) (fun n => by rw [hl]; exact hz n) c hc ρ
  have y := it1_take (tr p) (tr q) (ini.map fun z : Int => (z : Rat)) (14 - ini.length) 14 (by omega)
  rw [hl, show ini.length + (14 - ini.length) = 14 by omega] at y
  rw [← y, List.take_take, Nat.min_eq_left hc]
  exact z
theorem good2 (p q : List Int) (sp : shp p) (sq : shp q) (ini : List Int) (h2 : ini.length = 2) (hi : ∀ z ∈ ini, -4 ≤ z ∧ z ≤ 10)
    (ho : ∀ ρ, mkM 4 1 2 [] m_OperatorD_initD [.lst ([tr p, tr q, [1]].map poly)] ρ = .ok (opD [tr p, tr q, [1]]) ρ) (hr : ∀ ρ, mkM 5 2 3 [] m_RowD_initD [opD [tr p, tr q, [1]], .lst (ini.map fun z : Int => fr (z : Rat))] ρ = .ok (.ins 5 [opD [tr p, tr q, [1]], .tup (ini.map fun z : Int => fr (z : Rat))]) ρ) : ∃ r S T B, Good (pD [p, q, [1]] ini) r S T B := by
  have hl : (ini.map fun z : Int => (z : Rat)).length = 2 := by rw [List.length_map, h2]
  have t1 : tr [1] = [1] := by decide
  obtain ⟨T, B, q1, q2⟩ := values_gen [p, q, [1]] ini 2 (fun j T B => Tell2 T B (it2 (tr p) (tr q) [1] (ini.map fun z : Int => (z : Rat)) j) (5 + 13 * j)) (by omega) (by omega) rfl ⟨tell0 ini hi, fun b m => by
    obtain ⟨_, _, rfl⟩ := List.mem_map.mp m
    unfold nb
    decide⟩ (fun j T B h => by rw [h.1.1, it2_len, hl, h2]) (fun j T B h hj x4 x7 x8 x9 x10 x11 => by
    have z := val2 p q sp sq ini T B (it2 (tr p) (tr q) [1] (ini.map fun z : Int => (z : Rat)) j) (ini.length + j - 2) (5 + 13 * j) (by omega) (by rw [it2_len, hl]; omega) h (by omega) x4 x7 x8 x9 x10 x11
    rw [show ini.length + j - 2 + 2 = ini.length + j by omega] at z
    exact z)
  refine ⟨_, it2 (tr p) (tr q) [1] (ini.map fun z : Int => (z : Rat)) (14 - ini.length), T, B, by rw [it2_len, hl]; omega, q1.1.mono (by omega), ⟨_, _, rfl⟩, fun ρ => row_gen (ps := [p, q, [1]]) (qs := [tr p, tr q, [1]]) (by simp [t1]) (by
    intro x m
    rcases List.mem_cons.mp m with rfl | m
    · exact sp
    · rcases List.mem_cons.mp m with rfl | m
      · exact sq
      · rw [List.mem_singleton.mp m]
        exact shp1) (by simp) (by omega) ho hr ρ, fun c ρ hc => ?_, q2⟩
  have z := prefix2 (tr p) (tr q) (shp_small sp) (shp_small sq) (ini.map fun z : Int => (z : Rat)) hl (fun v m => by
    obtain ⟨y, hm, rfl⟩ := List.mem_map.mp m
    exact qb10 (hi y hm)) c hc ρ
  have y := it2_take (tr p) (tr q) [1] (ini.map fun z : Int => (z : Rat)) (14 - ini.length) 14 (by omega)
  rw [hl, h2, show 2 + (14 - 2) = 14 by omega] at y
  rw [h2, ← y, List.take_take, Nat.min_eq_left hc]
  exact z
theorem good_of {ps : List (List Int)} {ini : List Int} (h : Kd 10 ps ini) : ∃ r S T B, Good (pD ps ini) r S T B := by
  cases h with
  | @k0 a b c s ha hb hc hs =>
    have sp : shp [b, a] := .inr ⟨_, _, rfl, hb, ha⟩
    have sq : shp [c + 1, 1] := .inr ⟨_, _, rfl, by omega, by omega⟩
    have t : tr [c + 1, 1] = [c + 1, 1] := by simp [tr, trim2]
    refine good1 [b, a] [c + 1, 1] sp sq [s] (by simp) (by simp) (fun z m => by rw [List.mem_singleton.mp m]; exact hs) (fun n _ _ => ?_) ?_ ?_
    · rw [t]
      simp [hv]
      omega
    · rw [t]
      exact opr2 _ _ _
    · rw [t]
      exact row0 _ hc _
  | @k1 a b s t ha hb hs ht =>
    refine good2 [b] [a] (.inl ⟨_, rfl, hb⟩) (.inl ⟨_, rfl, ha⟩) [s, t] rfl (fun z m => ?_) (opr3 _ _) (row1 _ _ _ _)
    rcases List.mem_cons.mp m with rfl | m
    · exact hs
    · rw [List.mem_singleton.mp m]
      exact ht
  | @k2 a b c ini ha hb hc hl hi =>
    have sp : shp [b, a] := .inr ⟨_, _, rfl, hb, ha⟩
    have sq : shp [-(c : Int), 1] := .inr ⟨_, _, rfl, by omega, by omega⟩
    have t : tr [-(c : Int), 1] = [-(c : Int), 1] := by simp [tr, trim2]
    refine good1 [b, a] [-(c : Int), 1] sp sq ini (by omega) (by omega) hi (fun n hn _ => ?_) ?_ ?_
    · rw [t]
      simp [hv]
      omega
    · rw [t]
      exact opr2 _ _ _
    · rw [t]
      exact row2 _ hc _ (by rw [List.length_map, hl])
end K74
namespace K74
open PySem PySem.Spec PyProof.Rows L2 Ce
def bNa : En → SOut := (sCons (sApp 4 (op2 iMod (rd 2) (cst (.int 1000000)))) (sCons (sSet 2 (op2 iDiv (rd 2) (cst (.int 1000000)))) sNil))
def bNi : En → SOut := (sIf (tst (op2 iGt (vLen (vw 0)) (cst (.int 0)))) (sCons (sSet 6 (op2 iAdd (ixV 0 (op2 iMod (rd 5) (vLen (vw 0)))) (op2 iMul (cst (.int 7919)) (rd 5)))) sNil) sNil)
def bNc : En → SOut := (sApp 4 (op2 iMod (op2 iMod (op2 iMul (op2 iMod (op2 iMul (rd 6) (cst (.int 48271))) (cst (.int 2147483647))) (cst (.int 69621))) (cst (.int 2147483629))) (cst (.int 1000000))))
def bN : En → SOut := (sCons (sIf (tAnd2 (tst (rd 3)) (tst (op2 iGt (rd 2) (cst (.int 0))))) bNa (sCons (sSet 6 (cst (.int 13))) (sCons bNi (sCons bNc sNil)))) sNil)
theorem sNil_r {f : En → SOut} {ρ ρ1 : En} (h : f ρ = .nx ρ1) : sCons f sNil ρ = .nx ρ1 := by
  rw [sCons_nx h]
  rfl
theorem nb_bits {z : Int} (h : Builtin.Int.intBits z ≤ 1048576) : nb z 1048576 := by
  unfold Builtin.Int.intBits at h
  unfold nb
  by_cases e : z = 0
  · subst e
    exact Nat.zero_le _
  · rw [if_neg (by simpa using e)] at h
    exact Nat.le_of_lt ((Nat.log2_lt (by omega)).mp (by omega))
theorem cell_run (ns : List Int) (hl : ns.length ≤ 63) (hz : ∀ z ∈ ns, Builtin.Int.intBits z ≤ 1048576) (k : Nat) (hk : k < 500) (x1 x2 x3 x4 : Option O) : ∃ c, nb c 1048577 ∧ bNi [some (.im (.lst (ns.map .int))), x1, x2, x3, x4, some (.im (.int k)), some (.im (.int 13))] = .nx [some (.im (.lst (ns.map .int))), x1, x2, x3, x4, some (.im (.int k)), some (.im (.int c))] := by
  by_cases h : ns = []
  · subst h
    exact ⟨13, by unfold nb; have : 2 ^ 4 ≤ 2 ^ 1048577 := Nat.pow_le_pow_right (by omega) (by omega); exact Nat.le_trans (by decide) this, rfl⟩
  · have hp : 0 < ns.length := List.length_pos_iff.mpr h
    have hlt : k % ns.length < ns.length := Nat.mod_lt _ hp
    have d1 : divOk (ns.length : Int) = true := divOk_nb (b := 6) (by omega) (by unfold nb; omega) (by omega)
    have m1 : mulOk 7919 (k : Int) = true := mulOk_nb (a := 13) (b := 9) (by unfold nb; decide) (by unfold nb; omega) (by omega)
    have e : L2.atI (ns.map D.int) ((k : Int).fmod (ns.length : Int)) = some (.int ns[k % ns.length]) := by
      rw [Int.fmod_eq_emod_of_nonneg _ (by omega), ← Int.natCast_emod, Ce.atI_nat]
      simp [hlt]
    refine ⟨ns[k % ns.length] + 7919 * k, ?_, ?_⟩
    · have b1 := nb_bits (hz _ (List.getElem_mem hlt))
      have b2 : nb (7919 * (k : Int)) 1048576 := by
        have : nb (7919 * (k : Int)) 30 := by unfold nb; omega
        exact this.mono (by omega)
      exact b1.add b2
    · have g : (0 : Int) < (ns.length : Int) := by omega
      simp [bNi, sIf, tst, op2, iGt, vLen, vw, cst, ii, opt, Out.bind, Out.st, hp, sCons, sSet, ixV, iMod, iAdd, iMul, rd, d1, m1, e, h, SOut.sq, sNil]
theorem bN_run (ns : List Int) (hl : ns.length ≤ 63) (hz : ∀ z ∈ ns, Builtin.Int.intBits z ≤ 1048576) (k : Nat) (hk : k < 500) (r : Int) (f : Bool) (zs : List Int) (hs : zs.length ≤ 500) (x1 x6 : Option O) :
    ∃ r' z y6, (0 ≤ z ∧ z < 1000000) ∧ bN [some (.im (.lst (ns.map .int))), x1, some (.im (.int r)), some (.im (.bl f)), some (.ol (zs.map .int)), some (.im (.int k)), x6] = .nx [some (.im (.lst (ns.map .int))), x1, some (.im (.int r')), some (.im (.bl f)), some (.ol ((zs ++ [z]).map .int)), some (.im (.int k)), y6] := by
  have s1 : zs.length < sizeLine := by rw [sizeLine_eq]; omega
  have d6 : divOk 1000000 = true := by decide
  have d7 : divOk 2147483647 = true := by decide
  have d8 : divOk 2147483629 = true := by decide
  by_cases h : f = true ∧ 0 < r
  · obtain ⟨rfl, h⟩ := h
    refine ⟨r.fdiv 1000000, r.fmod 1000000, x6, fm r _ (by omega), ?_⟩
    unfold bN
    refine sNil_r ?_
    simp [sIf, tAnd2, tst, op2, iGt, rd, cst, ii, opt, Out.bind, Out.st, h, bNa, sCons, sSet, sApp, iMod, iDiv, d6, vw, s1, SOut.sq, sNil]
  · obtain ⟨c, nc, ec⟩ := cell_run ns hl hz k hk x1 (some (.im (.int r))) (some (.im (.bl f))) (some (.ol (zs.map .int)))
    have b1 := fm (c * 48271) 2147483647 (by omega)
    refine ⟨r, (((c * 48271).fmod 2147483647 * 69621).fmod 2147483629).fmod 1000000, some (.im (.int c)), fm _ _ (by omega), ?_⟩
    have m1 : mulOk c 48271 = true := mulOk_nb (b := 16) nc (by unfold nb; decide) (by omega)
    have m2 : mulOk ((c * 48271).fmod 2147483647) 69621 = true := mulOk_nb (a := 31) (b := 17) (by unfold nb; omega) (by unfold nb; decide) (by omega)
    have t : tAnd2 (tst (rd 3)) (tst (op2 iGt (rd 2) (cst (.int 0)))) [some (.im (.lst (ns.map .int))), x1, some (.im (.int r)), some (.im (.bl f)), some (.ol (zs.map .int)), some (.im (.int k)), x6] = .ok false [some (.im (.lst (ns.map .int))), x1, some (.im (.int r)), some (.im (.bl f)), some (.ol (zs.map .int)), some (.im (.int k)), x6] := by
      cases f with
      | false => rfl
      | true =>
        have h' : ¬ 0 < r := fun z => h ⟨rfl, z⟩
        simp [tAnd2, tst, op2, iGt, rd, cst, ii, opt, Out.bind, h']
    have e3 : bNc [some (.im (.lst (ns.map .int))), x1, some (.im (.int r)), some (.im (.bl f)), some (.ol (zs.map .int)), some (.im (.int k)), some (.im (.int c))] = .nx [some (.im (.lst (ns.map .int))), x1, some (.im (.int r)), some (.im (.bl f)), some (.ol ((zs ++ [(((c * 48271).fmod 2147483647 * 69621).fmod 2147483629).fmod 1000000]).map .int)), some (.im (.int k)), some (.im (.int c))] := by
      simp [bNc, sApp, op2, rd, cst, iMod, iMul, ii, opt, Out.bind, Out.st, vw, s1, m1, m2, d6, d7, d8]
    unfold bN
    refine sNil_r ?_
    unfold sIf
    rw [t]
    show (sCons (sSet 6 (cst (.int 13))) (sCons bNi (sCons bNc sNil))) _ = _
    refine (sCons_nx (ρ1 := [some (.im (.lst (ns.map .int))), x1, some (.im (.int r)), some (.im (.bl f)), some (.ol (zs.map .int)), some (.im (.int k)), some (.im (.int 13))]) rfl).trans ?_
    rw [sCons_nx ec]
    exact sNil_r e3
theorem numbers_run (ns : List Int) (hl : ns.length ≤ 63) (hz : ∀ z ∈ ns, Builtin.Int.intBits z ≤ 1048576) (n : Nat) (hn : n ≤ 500) : ∃ zs : List Int, zs.length = n ∧ (∀ z ∈ zs, 0 ≤ z ∧ z < 1000000) ∧ ∀ ρ, fnM 2 [] m__law_numbers [.lst (ns.map .int), .int n] ρ = .ok (.lst (zs.map .int)) ρ := by
  obtain ⟨r, e2⟩ : ∃ r, (sIf (tst (op2 iGt (vLen (vw 0)) (cst (.int 0)))) (sCons (sSet 2 (ixV 0 (cst (.int 0)))) sNil) sNil) [some (.im (.lst (ns.map .int))), some (.im (.int n)), some (.im (.int 0)), none, none, none, none] = .nx [some (.im (.lst (ns.map .int))), some (.im (.int n)), some (.im (.int r)), none, none, none, none] := by
    cases ns with
    | nil => exact ⟨0, rfl⟩
    | cons z ns =>
      refine ⟨z, ?_⟩
      have g : (0 : Int) < (ns.length : Int) + 1 := by omega
      simp [sIf, tst, op2, iGt, vLen, vw, cst, ii, opt, Out.bind, Out.st, sCons, sSet, ixV, rd, SOut.sq, sNil, g, L2.atI, L2.ixN]
  have e3 : (sSet 3 (op2 iGe (rd 2) (op2 iPow (cst (.int 10)) (cst (.int 18))))) [some (.im (.lst (ns.map .int))), some (.im (.int n)), some (.im (.int r)), none, none, none, none] = .nx [some (.im (.lst (ns.map .int))), some (.im (.int n)), some (.im (.int r)), some (.im (.bl (decide (r ≥ 1000000000000000000)))), none, none, none] := by rfl
  have e4 : (sSetN 4 (nLst aN)) [some (.im (.lst (ns.map .int))), some (.im (.int n)), some (.im (.int r)), some (.im (.bl (decide (r ≥ 1000000000000000000)))), none, none, none] = .nx [some (.im (.lst (ns.map .int))), some (.im (.int n)), some (.im (.int r)), some (.im (.bl (decide (r ≥ 1000000000000000000)))), some (.ol []), none, none] := by rfl
  generalize decide (r ≥ 1000000000000000000) = f at e3 e4
  have e5 : itR1 (aC (rd 1) aN) [some (.im (.lst (ns.map .int))), some (.im (.int n)), some (.im (.int r)), some (.im (.bl f)), some (.ol []), none, none] = .ok (rngD 0 1 n) [some (.im (.lst (ns.map .int))), some (.im (.int n)), some (.im (.int r)), some (.im (.bl f)), some (.ol []), none, none] := itR1_ok (j := (n : Int)) rfl (inR_nat n (by omega))
  obtain ⟨ρ', e6, r', zs, x5, x6, l1, l2, e7⟩ := forL_inv (g := gN 5) (b := bN) (fun k ρ => ∃ (r' : Int) (zs : List Int) (x5 x6 : Option O), zs.length = k ∧ (∀ z ∈ zs, 0 ≤ z ∧ z < 1000000) ∧ ρ = [some (.im (.lst (ns.map .int))), some (.im (.int n)), some (.im (.int r')), some (.im (.bl f)), some (.ol (zs.map .int)), x5, x6]) (rngD 0 1 n) 0 [some (.im (.lst (ns.map .int))), some (.im (.int n)), some (.im (.int r)), some (.im (.bl f)), some (.ol []), none, none] ⟨r, [], none, none, rfl, by simp, rfl⟩ (by
    rintro j d ρ1 hj ⟨r', zs, x5, x6, l1, l2, rfl⟩
    obtain ⟨hj, rfl⟩ := rng_at hj
    rw [Nat.zero_add] at l1 ⊢
    obtain ⟨r2, z, y6, hz', e⟩ := bN_run ns hl hz j (by omega) r' f zs (by omega) (some (.im (.int n))) x6
    refine ⟨_, [some (.im (.lst (ns.map .int))), some (.im (.int n)), some (.im (.int r2)), some (.im (.bl f)), some (.ol ((zs ++ [z]).map .int)), some (.im (.int j)), y6], rfl, ?_, r2, zs ++ [z], _, y6, by rw [List.length_append, l1]; rfl, ?_, rfl⟩
    · show bN [some (.im (.lst (ns.map .int))), some (.im (.int n)), some (.im (.int r')), some (.im (.bl f)), some (.ol (zs.map .int)), some (.im (.int (0 + (j : Int)))), x6] = _
      rw [Int.zero_add]
      exact e
    · intro y m
      rcases List.mem_append.mp m with m | m
      · exact l2 y m
      · rw [List.mem_singleton.mp m]
        exact hz')
  rw [rngD_len, Nat.zero_add] at l1
  subst e7
  refine ⟨zs, l1, l2, fun ρ => ?_⟩
  have e8 : b__law_numbers [some (.im (.lst (ns.map .int))), some (.im (.int n)), none, none, none, none, none] = .rt (.lst (zs.map .int)) [some (.im (.lst (ns.map .int))), some (.im (.int n)), some (.im (.int r')), some (.im (.bl f)), some (.im (.lst (zs.map .int))), x5, x6] := by
    have f1 : (sFor (itR1 (aC (rd 1) aN)) (gN 5) bN) [some (.im (.lst (ns.map .int))), some (.im (.int n)), some (.im (.int r)), some (.im (.bl f)), some (.ol []), none, none] = .nx [some (.im (.lst (ns.map .int))), some (.im (.int n)), some (.im (.int r')), some (.im (.bl f)), some (.ol (zs.map .int)), x5, x6] := by
      rw [sFor, e5]
      exact e6
    unfold b__law_numbers
    refine (sCons_nx (ρ1 := [some (.im (.lst (ns.map .int))), some (.im (.int n)), some (.im (.int 0)), none, none, none, none]) rfl).trans ?_
    rw [sCons_nx e2, sCons_nx e3, sCons_nx e4]
    refine (sCons_nx f1).trans ?_
    rfl
  exact fn_rt (m := 7) ρ rfl e8
end K74
namespace K74
open PySem PySem.Spec PyProof.Rows L2 Ce
theorem eqs_fr : ∀ A B : List Rat, eqs (qOwn 0 m_FractionD_eqD) (A.map fr) (B.map fr) = some (decide (A = B))
  | [], [] => by simp [eqs]
  | [], _ :: _ => by simp [eqs]
  | _ :: _, [] => by simp [eqs]
  | a :: A, b :: B => by
    rw [List.map_cons, List.map_cons, eqs, eq_run]
    by_cases h : a = b
    · rw [decide_eq_true h]
      show eqs _ _ _ = _
      rw [eqs_fr A B]
      simp [h]
    · rw [decide_eq_false h]
      simp [h]
theorem qlst_fr (A B : List Rat) : qLst (qOwn 0 m_FractionD_eqD) (.lst (A.map fr)) (.lst (B.map fr)) = some (decide (A = B)) := by
  unfold qLst
  by_cases h : A.length = B.length
  · simp only [List.length_map, h, decide_true, if_true]
    exact eqs_fr A B
  · simp only [List.length_map, h, decide_false]
    have : A ≠ B := fun z => h (by rw [z])
    simp [this]
def dif (i : Int) : D := .tup [.str (PySem.Str.ofString "different"), .int i]
theorem acc_neg (o o' : D) (l l' : List D) (i : Int) (h : i < 0) (ρ : En) : fnM 3 [] m_accepts_rows [.ins 5 [o, .tup l], .ins 5 [o', .tup l'], dif i] ρ = .ok (.bl false) ρ := by
  refine fn_rt (m := 6) (ρ' := [some (.im (.ins 5 [o, .tup l])), some (.im (.ins 5 [o', .tup l'])), some (.im (dif i)), none, none, none]) ρ rfl ?_
  show b_accepts_rows [some (.im (.ins 5 [o, .tup l])), some (.im (.ins 5 [o', .tup l'])), some (.im (dif i)), none, none, none] = _
  generalize hσ : ([some (.im (.ins 5 [o, .tup l])), some (.im (.ins 5 [o', .tup l'])), some (.im (dif i)), none, none, none] : En) = σ
  have e1 : (sIf (tst (op2 sEq (ix (rd 2) (cst (.int 0))) (cst (.str (PySem.Str.ofString "equal"))))) (sCons sEr sNil) sNil) σ = .nx σ := by
    subst hσ
    kernel_rfl
  have t1 : tst (op2 sNe (ix (rd 2) (cst (.int 0))) (cst (.str (PySem.Str.ofString "different")))) σ = .ok false σ := by
    subst hσ
    kernel_rfl
  have t2 : tst (op2 iLt (ix (rd 2) (cst (.int 1))) (cst (.int 0))) σ = .ok true σ := by
    have i1 : itm (dif i) (.int 1) = some (.int i) := by rfl
    subst hσ
    simp [tst, op2, ix, rd, cst, i1, iLt, ii, opt, Out.bind, h]
  unfold b_accepts_rows
  rw [sCons_nx e1]
  refine sCons_rt ?_
  unfold sIf tOr2
  rw [t1]
  simp only [Out.bind]
  rw [t2]
  rfl
theorem acc_run (o o' : D) (l l' : List D) (S S' : List Rat) (i : Nat) (hi : i < 14) (h1 : S.length = 14) (h2 : S'.length = 14)
    (p1 : ∀ (c : Nat) (ρ : En), c ≤ 14 → fnM 2 [] m_Row_prefix [.ins 5 [o, .tup l], .int c] ρ = .ok (.lst ((S.take c).map fr)) ρ)
    (p2 : ∀ (c : Nat) (ρ : En), c ≤ 14 → fnM 2 [] m_Row_prefix [.ins 5 [o', .tup l'], .int c] ρ = .ok (.lst ((S'.take c).map fr)) ρ) (ρ : En) :
    fnM 3 [] m_accepts_rows [.ins 5 [o, .tup l], .ins 5 [o', .tup l'], dif i] ρ = .ok (.bl (decide (S.take i = S'.take i) && !decide (S[i]? = S'[i]?))) ρ := by
  have x1 : S[i]? = some S[i] := List.getElem?_eq_getElem (by omega)
  have x2 : S'[i]? = some S'[i] := List.getElem?_eq_getElem (by omega)
  generalize S[i] = s at x1
  generalize S'[i] = s' at x2
  refine fn_rt (m := 6) (ρ' := [some (.im (.ins 5 [o, .tup l])), some (.im (.ins 5 [o', .tup l'])), some (.im (dif i)), some (.im (.int i)), some (.im (.lst ((S.take (i + 1)).map fr))), some (.im (.lst ((S'.take (i + 1)).map fr)))]) ρ rfl ?_
  show b_accepts_rows [some (.im (.ins 5 [o, .tup l])), some (.im (.ins 5 [o', .tup l'])), some (.im (dif i)), none, none, none] = _
  have i1 : itm (dif i) (.int 1) = some (.int i) := by rfl
  have e3 : (sSet 3 (ix (rd 2) (cst (.int 1)))) [some (.im (.ins 5 [o, .tup l])), some (.im (.ins 5 [o', .tup l'])), some (.im (dif i)), none, none, none] = .nx [some (.im (.ins 5 [o, .tup l])), some (.im (.ins 5 [o', .tup l'])), some (.im (dif i)), some (.im (.int i)), none, none] := by rfl
  generalize hσ : ([some (.im (.ins 5 [o, .tup l])), some (.im (.ins 5 [o', .tup l'])), some (.im (dif i)), none, none, none] : En) = σ at e3
  have e1 : (sIf (tst (op2 sEq (ix (rd 2) (cst (.int 0))) (cst (.str (PySem.Str.ofString "equal"))))) (sCons sEr sNil) sNil) σ = .nx σ := by
    subst hσ
    kernel_rfl
  have e2 : (sIf (tOr2 (tst (op2 sNe (ix (rd 2) (cst (.int 0))) (cst (.str (PySem.Str.ofString "different"))))) (tst (op2 iLt (ix (rd 2) (cst (.int 1))) (cst (.int 0))))) (sCons (sRet (cst (.bl false))) sNil) sNil) σ = .nx σ := by
    have t1 : tst (op2 sNe (ix (rd 2) (cst (.int 0))) (cst (.str (PySem.Str.ofString "different")))) σ = .ok false σ := by
      subst hσ
      kernel_rfl
    have t2 : tst (op2 iLt (ix (rd 2) (cst (.int 1))) (cst (.int 0))) σ = .ok false σ := by
      have h : ¬ (i : Int) < 0 := by omega
      subst hσ
      simp [tst, op2, ix, rd, cst, i1, iLt, ii, opt, Out.bind, h]
    unfold sIf tOr2
    rw [t1]
    simp only [Out.bind]
    rw [t2]
    rfl
  have g1 : ∀ (x4 : Option O), aC (op2 iAdd (rd 3) (cst (.int 1))) aN [some (.im (.ins 5 [o, .tup l])), some (.im (.ins 5 [o', .tup l'])), some (.im (dif i)), some (.im (.int i)), x4, none] = .ok [.int (i + 1 : Nat)] [some (.im (.ins 5 [o, .tup l])), some (.im (.ins 5 [o', .tup l'])), some (.im (dif i)), some (.im (.int i)), x4, none] := by
    intro x4
    simp [aC, aN, op2, rd, cst, iAdd, ii, opt, Out.bind]
  have e4 : (sSet 4 (Ce.mt 5 (fnM 2 [] m_Row_prefix) (rd 0) (aC (op2 iAdd (rd 3) (cst (.int 1))) aN))) [some (.im (.ins 5 [o, .tup l])), some (.im (.ins 5 [o', .tup l'])), some (.im (dif i)), some (.im (.int i)), none, none] = .nx [some (.im (.ins 5 [o, .tup l])), some (.im (.ins 5 [o', .tup l'])), some (.im (dif i)), some (.im (.int i)), some (.im (.lst ((S.take (i + 1)).map fr))), none] := by
    unfold sSet Ce.mt
    have r0 : rd 0 [some (.im (.ins 5 [o, .tup l])), some (.im (.ins 5 [o', .tup l'])), some (.im (dif i)), some (.im (.int i)), none, none] = .ok (.ins 5 [o, .tup l]) [some (.im (.ins 5 [o, .tup l])), some (.im (.ins 5 [o', .tup l'])), some (.im (dif i)), some (.im (.int i)), none, none] := by rfl
    rw [r0]
    simp only [Out.bind, decide_true, if_true]
    rw [g1]
    simp only [Out.bind]
    rw [p1 _ _ (by omega)]
    rfl
  have e5 : (sSet 5 (Ce.mt 5 (fnM 2 [] m_Row_prefix) (rd 1) (aC (op2 iAdd (rd 3) (cst (.int 1))) aN))) [some (.im (.ins 5 [o, .tup l])), some (.im (.ins 5 [o', .tup l'])), some (.im (dif i)), some (.im (.int i)), some (.im (.lst ((S.take (i + 1)).map fr))), none] = .nx [some (.im (.ins 5 [o, .tup l])), some (.im (.ins 5 [o', .tup l'])), some (.im (dif i)), some (.im (.int i)), some (.im (.lst ((S.take (i + 1)).map fr))), some (.im (.lst ((S'.take (i + 1)).map fr)))] := by
    unfold sSet Ce.mt
    have r1 : rd 1 [some (.im (.ins 5 [o, .tup l])), some (.im (.ins 5 [o', .tup l'])), some (.im (dif i)), some (.im (.int i)), some (.im (.lst ((S.take (i + 1)).map fr))), none] = .ok (.ins 5 [o', .tup l']) [some (.im (.ins 5 [o, .tup l])), some (.im (.ins 5 [o', .tup l'])), some (.im (dif i)), some (.im (.int i)), some (.im (.lst ((S.take (i + 1)).map fr))), none] := by rfl
    rw [r1]
    simp only [Out.bind, decide_true, if_true]
    rw [g1]
    simp only [Out.bind]
    rw [p2 _ _ (by omega)]
    rfl
  have c1 : ∀ A : List Rat, Ce.cutD ((A.take (i + 1)).map fr) none (some (i : Int)) = (A.take i).map fr := fun A => by
    rw [cut_take, ← List.map_take, List.take_take, Nat.min_eq_left (by omega)]
  have a1 : ∀ (A : List Rat) (v : Rat), A[i]? = some v → L2.atI ((A.take (i + 1)).map fr) (i : Int) = some (fr v) := fun A v e => by
    rw [Ce.atI_nat, List.getElem?_map, List.getElem?_take, if_pos (by omega), e]
    rfl
  have b1 := a1 S s x1
  have b2 := a1 S' s' x2
  have e6 : (sRet (vAnd2 (op2 (qEq (qLst (qOwn 0 m_FractionD_eqD))) (fz (nSlV 4 noP (isP (rd 3)))) (fz (nSlV 5 noP (isP (rd 3))))) (op2 (qNe (qOwn 0 m_FractionD_eqD)) (ixV 4 (rd 3)) (ixV 5 (rd 3))))) [some (.im (.ins 5 [o, .tup l])), some (.im (.ins 5 [o', .tup l'])), some (.im (dif i)), some (.im (.int i)), some (.im (.lst ((S.take (i + 1)).map fr))), some (.im (.lst ((S'.take (i + 1)).map fr)))] = .rt (.bl (decide (S.take i = S'.take i) && !decide (S[i]? = S'[i]?))) [some (.im (.ins 5 [o, .tup l])), some (.im (.ins 5 [o', .tup l'])), some (.im (dif i)), some (.im (.int i)), some (.im (.lst ((S.take (i + 1)).map fr))), some (.im (.lst ((S'.take (i + 1)).map fr)))] := by
    have d1 := c1 S
    have d2 := c1 S'
    generalize (S.take (i + 1)).map fr = X1 at *
    generalize (S'.take (i + 1)).map fr = X2 at *
    have q1 := qlst_fr (S.take i) (S'.take i)
    have q2 := eq_run s s'
    rw [x1, x2]
    by_cases h : S.take i = S'.take i
    · rw [decide_eq_true h] at q1 ⊢
      simp only [sRet, vAnd2, op2, qEq, qNe, fz, nSlV, ixV, vw, noP, isP, rd, Out.bind, Out.st, opt, List.getElem?_cons_succ, List.getElem?_cons_zero, d1, d2, q1, q2, b1, b2, Option.map, Option.some.injEq]
      rfl
    · rw [decide_eq_false h] at q1 ⊢
      simp only [sRet, vAnd2, op2, qEq, qNe, fz, nSlV, ixV, vw, noP, isP, rd, Out.bind, Out.st, opt, List.getElem?_cons_succ, List.getElem?_cons_zero, d1, d2, q1, Option.map]
      rfl
  unfold b_accepts_rows
  rw [sCons_nx e1, sCons_nx e2, sCons_nx e3, sCons_nx e4, sCons_nx e5]
  exact sCons_rt e6
end K74
namespace K74
open PySem PySem.Spec PyProof.Rows L2 Ce
/-! ### the law -/
theorem Kd.mono {ps : List (List Int)} {ini : List Int} (h : Kd 8 ps ini) : Kd 10 ps ini := by
  cases h with
  | k0 ha hb hc hs => exact .k0 ha hb hc (by omega)
  | k1 ha hb hs ht => exact .k1 ha hb (by omega) (by omega)
  | k2 ha hb hc hl hi => exact .k2 ha hb hc hl (fun z m => by have := hi z m; omega)
theorem Kd.bd {m : Int} {ps : List (List Int)} {ini : List Int} (h : Kd m ps ini) : ∀ z ∈ ini, -4 ≤ z ∧ z ≤ m := by
  cases h with
  | k0 ha hb hc hs => exact fun z m => by rw [List.mem_singleton.mp m]; exact hs
  | k1 ha hb hs ht =>
    intro z m
    rcases List.mem_cons.mp m with rfl | m
    · exact hs
    · rw [List.mem_singleton.mp m]
      exact ht
  | k2 ha hb hc hl hi => exact hi
theorem Kd.set {ps : List (List Int)} {ini : List Int} (h : Kd 8 ps ini) (j : Nat) (v : Int) (hv : -4 ≤ v ∧ v ≤ 10) : Kd 10 ps (ini.set j v) := by
  have h' := h.mono
  cases h' with
  | k0 ha hb hc hs =>
    match j with
    | 0 => exact .k0 ha hb hc hv
    | j + 1 => exact .k0 ha hb hc hs
  | k1 ha hb hs ht =>
    match j with
    | 0 => exact .k1 ha hb hv ht
    | 1 => exact .k1 ha hb hs hv
    | j + 2 => exact .k1 ha hb hs ht
  | k2 ha hb hc hl hi =>
    refine .k2 ha hb hc (by rw [List.length_set, hl]) fun z m => ?_
    rcases List.mem_or_eq_of_mem_set m with m | rfl
    · exact hi z m
    · exact hv
def cN : En → SOut := (sIf (tst (op2 sEq (op2 iMod (ixV 1 (cst (.int 8))) (cst (.int 3))) (cst (.int 1)))) (sCons (sNest 3 (ix (rd 2) (cst (.int 0))) (nList (ix (rd 2) (cst (.int 1)))) (op2 iAdd (ix (ixV 3 (cst (.int 1))) (op2 iMod (ixV 1 (cst (.int 9))) (cl1 (fun ds => opt (kLen ds)) (aC (ixV 3 (cst (.int 1))) aN)))) (op2 iMod (ixV 1 (cst (.int 10))) (cst (.int 3)))) (op2 iMod (ixV 1 (cst (.int 9))) (cl1 (fun ds => opt (kLen ds)) (aC (ixV 3 (cst (.int 1))) aN)))) sNil) sNil)
theorem at_int {zs : List Int} {j : Nat} (h : j < zs.length) : L2.atI (zs.map D.int) (j : Int) = some (.int zs[j]) := by
  rw [Ce.atI_nat]
  simp [h]
theorem nest_run (x0 : D) (zs : List Int) (hl : zs.length = 12) {ps ps' : List (List Int)} {ini ini' : List Int} (h : Kd 8 ps ini) (h' : Kd 8 ps' ini') :
    ∃ qs jni y3, Kd 10 qs jni ∧ (y3 = O.im (pD qs jni) ∨ y3 = O.ol [.lst (qs.map fun p => .lst (p.map .int)), .lst (jni.map .int)]) ∧
      cN [some (.im x0), some (.im (.lst (zs.map .int))), some (.im (pD ps ini)), some (.im (pD ps' ini')), none, none, none, none, none, none, none, none] = .nx [some (.im x0), some (.im (.lst (zs.map .int))), some (.im (pD ps ini)), some y3, none, none, none, none, none, none, none, none] := by
  have d3 : divOk 3 = true := by decide
  have a8 := at_int (zs := zs) (j := 8) (by omega)
  have a9 := at_int (zs := zs) (j := 9) (by omega)
  have a10 := at_int (zs := zs) (j := 10) (by omega)
  generalize zs[8] = z8 at a8
  generalize zs[9] = z9 at a9
  generalize zs[10] = z10 at a10
  have a8' : L2.atI (zs.map D.int) 8 = some (.int z8) := a8
  have a9' : L2.atI (zs.map D.int) 9 = some (.int z9) := a9
  have a10' : L2.atI (zs.map D.int) 10 = some (.int z10) := a10
  have t : tst (op2 sEq (op2 iMod (ixV 1 (cst (.int 8))) (cst (.int 3))) (cst (.int 1))) [some (.im x0), some (.im (.lst (zs.map .int))), some (.im (pD ps ini)), some (.im (pD ps' ini')), none, none, none, none, none, none, none, none] = .ok (decide (z8.fmod 3 = 1)) [some (.im x0), some (.im (.lst (zs.map .int))), some (.im (pD ps ini)), some (.im (pD ps' ini')), none, none, none, none, none, none, none, none] := by
    simp [tst, op2, ixV, vw, cst, iMod, sEq, seq, ii, opt, Out.bind, a8', d3]
  by_cases hk : z8.fmod 3 = 1
  · obtain ⟨l1, l5, -⟩ := h.len
    have dl : divOk (ini.length : Int) = true := divOk_nb (b := 3) (by omega) (by unfold nb; omega) (by omega)
    have jb := fm z9 ini.length (by omega)
    obtain ⟨j, ej⟩ : ∃ j : Nat, z9.fmod ini.length = j := ⟨(z9.fmod ini.length).toNat, by omega⟩
    have jl : j < ini.length := by omega
    have vb := h.bd _ (List.getElem_mem jl)
    have m3 := fm z10 3 (by omega)
    refine ⟨ps, ini.set j (ini[j] + z10.fmod 3), O.ol [.lst (ps.map fun p => .lst (p.map .int)), .lst ((ini.set j (ini[j] + z10.fmod 3)).map .int)], h.set j _ (by omega), .inr rfl, ?_⟩
    unfold cN sIf
    rw [t, decide_eq_true hk]
    show sCons (sNest 3 _ _ _ _) sNil _ = _
    refine sNil_r ?_
    have f0 : (ix (rd 2) (cst (.int 0))) [some (.im x0), some (.im (.lst (zs.map .int))), some (.im (pD ps ini)), some (.im (pD ps' ini')), none, none, none, none, none, none, none, none] = .ok (.lst (ps.map fun p => .lst (p.map .int))) [some (.im x0), some (.im (.lst (zs.map .int))), some (.im (pD ps ini)), some (.im (pD ps' ini')), none, none, none, none, none, none, none, none] := by rfl
    have f1 : (nList (ix (rd 2) (cst (.int 1)))) [some (.im x0), some (.im (.lst (zs.map .int))), some (.im (pD ps ini)), some (.im (pD ps' ini')), none, none, none, none, none, none, none, none] = .ok (ini.map .int) [some (.im x0), some (.im (.lst (zs.map .int))), some (.im (pD ps ini)), some (.im (pD ps' ini')), none, none, none, none, none, none, none, none] := by rfl
    have g1 : (ixV 3 (cst (.int 1))) [some (.im x0), some (.im (.lst (zs.map .int))), some (.im (pD ps ini)), some (.im (pD ps ini)), none, none, none, none, none, none, none, none] = .ok (.lst (ini.map .int)) [some (.im x0), some (.im (.lst (zs.map .int))), some (.im (pD ps ini)), some (.im (pD ps ini)), none, none, none, none, none, none, none, none] := by rfl
    have g2 : (op2 iMod (ixV 1 (cst (.int 9))) (cl1 (fun ds => opt (kLen ds)) (aC (ixV 3 (cst (.int 1))) aN))) [some (.im x0), some (.im (.lst (zs.map .int))), some (.im (pD ps ini)), some (.im (pD ps ini)), none, none, none, none, none, none, none, none] = .ok (.int j) [some (.im x0), some (.im (.lst (zs.map .int))), some (.im (pD ps ini)), some (.im (pD ps ini)), none, none, none, none, none, none, none, none] := by
      have g9 : (ixV 1 (cst (.int 9))) [some (.im x0), some (.im (.lst (zs.map .int))), some (.im (pD ps ini)), some (.im (pD ps ini)), none, none, none, none, none, none, none, none] = .ok (.int z9) [some (.im x0), some (.im (.lst (zs.map .int))), some (.im (pD ps ini)), some (.im (pD ps ini)), none, none, none, none, none, none, none, none] := by
        simp [ixV, vw, cst, opt, Out.bind, a9']
      rw [op2, g9]
      simp only [Out.bind]
      rw [cl1, aC, g1]
      have ne : ini ≠ [] := fun z => by rw [z] at l1; simp at l1
      simp [aN, Out.bind, kLen, opt, iMod, ii, dl, ej, ne]
    have g3 : (op2 iMod (ixV 1 (cst (.int 10))) (cst (.int 3))) [some (.im x0), some (.im (.lst (zs.map .int))), some (.im (pD ps ini)), some (.im (pD ps ini)), none, none, none, none, none, none, none, none] = .ok (.int (z10.fmod 3)) [some (.im x0), some (.im (.lst (zs.map .int))), some (.im (pD ps ini)), some (.im (pD ps ini)), none, none, none, none, none, none, none, none] := by
      simp [op2, ixV, vw, cst, iMod, ii, opt, Out.bind, a10', d3]
    have g4 : (op2 iAdd (ix (ixV 3 (cst (.int 1))) (op2 iMod (ixV 1 (cst (.int 9))) (cl1 (fun ds => opt (kLen ds)) (aC (ixV 3 (cst (.int 1))) aN)))) (op2 iMod (ixV 1 (cst (.int 10))) (cst (.int 3)))) [some (.im x0), some (.im (.lst (zs.map .int))), some (.im (pD ps ini)), some (.im (pD ps ini)), none, none, none, none, none, none, none, none] = .ok (.int (ini[j] + z10.fmod 3)) [some (.im x0), some (.im (.lst (zs.map .int))), some (.im (pD ps ini)), some (.im (pD ps ini)), none, none, none, none, none, none, none, none] := by
      have e : itm (.lst (ini.map D.int)) (.int (j : Int)) = some (.int ini[j]) := at_int jl
      rw [op2, ix, g1]
      simp only [Out.bind]
      rw [g2]
      simp only [Out.bind, e, opt]
      rw [g3]
      rfl
    unfold sNest
    rw [f0]
    simp only [Out.st]
    rw [f1]
    simp only [Out.st]
    have fr : ([some (.im x0), some (.im (.lst (zs.map .int))), some (.im (pD ps ini)), some (.im (pD ps' ini')), none, none, none, none, none, none, none, none] : En).all frzO && decide (3 < ([some (.im x0), some (.im (.lst (zs.map .int))), some (.im (pD ps ini)), some (.im (pD ps' ini')), none, none, none, none, none, none, none, none] : En).length) := by rfl
    rw [if_pos fr]
    have es : ([some (.im x0), some (.im (.lst (zs.map .int))), some (.im (pD ps ini)), some (.im (pD ps' ini')), none, none, none, none, none, none, none, none] : En).set 3 (some (.im (.lst [.lst (ps.map fun p => .lst (p.map .int)), .lst (ini.map .int)]))) = [some (.im x0), some (.im (.lst (zs.map .int))), some (.im (pD ps ini)), some (.im (pD ps ini)), none, none, none, none, none, none, none, none] := by rfl
    rw [es, g4]
    simp only
    rw [g2]
    have ei : ixN (ini.map D.int).length (j : Int) = some j := by
      unfold ixN
      rw [List.length_map, if_pos (by omega), if_pos (by omega)]
      simp
    simp only [ei]
    rw [List.map_set]
    rfl
  · refine ⟨ps', ini', O.im (pD ps' ini'), h'.mono, .inl rfl, ?_⟩
    unfold cN sIf
    rw [t, decide_eq_false hk]
    rfl
theorem cross {t b t' b' : Int} {v v' : Rat} (h : b ≠ 0) (h' : b' ≠ 0) (e : (t : Rat) / (b : Rat) = v) (e' : (t' : Rat) / (b' : Rat) = v') : t * b' = t' * b ↔ v = v' := by
  have hb : (b : Rat) ≠ 0 := by exact_mod_cast h
  have hb' : (b' : Rat) ≠ 0 := by exact_mod_cast h'
  subst e e'
  constructor
  · intro z
    have z' : (t : Rat) * b' = t' * b := by exact_mod_cast z
    generalize (b : Rat) = b at *
    generalize (b' : Rat) = b' at *
    generalize (t : Rat) = t at *
    generalize (t' : Rat) = t' at *
    grind
  · intro z
    have z' : (t : Rat) * b' = t' * b := by
      generalize (b : Rat) = b at *
      generalize (b' : Rat) = b' at *
      generalize (t : Rat) = t at *
      generalize (t' : Rat) = t' at *
      grind
    exact_mod_cast z'
theorem take_eq {S S' : List Rat} {k : Nat} (h : k < S.length) (h' : k < S'.length) : S.take (k + 1) = S'.take (k + 1) ↔ S.take k = S'.take k ∧ S[k]? = S'[k]? := by
  rw [List.take_succ, List.take_succ, List.getElem?_eq_getElem h, List.getElem?_eq_getElem h']
  constructor
  · intro e
    have := List.append_inj' e (by simp)
    simpa using this
  · rintro ⟨e1, e2⟩
    rw [e1, e2]
/-- the test of one place -/
def cT (j : Nat) : En → Out D := (op2 sNe (op2 iMul (ix (ixV 7 (cst (.int 0))) (rd j)) (ix (ixV 8 (cst (.int 1))) (rd j))) (op2 iMul (ix (ixV 8 (cst (.int 0))) (rd j)) (ix (ixV 7 (cst (.int 1))) (rd j))))
theorem test_run {T B T' B' : List Int} {S S' : List Rat} (h : Tell T B S 500) (h' : Tell T' B' S' 500) (l : S.length = 14) (l' : S'.length = 14) (k : Nat) (hk : k < 14) (j : Nat) (ρ : En) (e7 : ρ[7]? = some (some (.im (.lst [.lst (T.map .int), .lst (B.map .int)])))) (e8 : ρ[8]? = some (some (.im (.lst [.lst (T'.map .int), .lst (B'.map .int)])))) (ej : ρ[j]? = some (some (.im (.int k)))) :
    cT j ρ = .ok (.bl (!decide (S[k]? = S'[k]?))) ρ := by
  obtain ⟨h1, h2, h3⟩ := h
  obtain ⟨h1', h2', h3'⟩ := h'
  have kT : k < T.length := by omega
  have kB : k < B.length := by omega
  have kS : k < S.length := by omega
  have kT' : k < T'.length := by omega
  have kB' : k < B'.length := by omega
  have kS' : k < S'.length := by omega
  obtain ⟨b0, br, nt, nbb⟩ := h3 k _ _ _ (List.getElem?_eq_getElem kT) (List.getElem?_eq_getElem kB) (List.getElem?_eq_getElem kS)
  obtain ⟨b0', br', nt', nbb'⟩ := h3' k _ _ _ (List.getElem?_eq_getElem kT') (List.getElem?_eq_getElem kB') (List.getElem?_eq_getElem kS')
  have c := cross b0 b0' br br'
  have iT : itm (.lst (T.map D.int)) (.int (k : Int)) = some (.int T[k]) := at_int kT
  have iB : itm (.lst (B.map D.int)) (.int (k : Int)) = some (.int B[k]) := at_int kB
  have iT' : itm (.lst (T'.map D.int)) (.int (k : Int)) = some (.int T'[k]) := at_int kT'
  have iB' : itm (.lst (B'.map D.int)) (.int (k : Int)) = some (.int B'[k]) := at_int kB'
  rw [List.getElem?_eq_getElem kS, List.getElem?_eq_getElem kS']
  generalize T[k] = t at *
  generalize B[k] = b at *
  generalize T'[k] = t' at *
  generalize B'[k] = b' at *
  generalize S[k] = s at *
  generalize S'[k] = s' at *
  have m1 := mulOk_nb nt nbb' (by omega)
  have m2 := mulOk_nb nt' nbb (by omega)
  have r : rd j ρ = .ok (.int k) ρ := by rw [rd, ej]
  have v7 : vw 7 ρ = .ok [.lst (T.map .int), .lst (B.map .int)] ρ := by rw [vw, e7]
  have v8 : vw 8 ρ = .ok [.lst (T'.map .int), .lst (B'.map .int)] ρ := by rw [vw, e8]
  have x70 : ixV 7 (cst (.int 0)) ρ = .ok (.lst (T.map .int)) ρ := by rw [ixV, v7]; simp only [Out.bind, cst]; rw [v7]; rfl
  have x71 : ixV 7 (cst (.int 1)) ρ = .ok (.lst (B.map .int)) ρ := by rw [ixV, v7]; simp only [Out.bind, cst]; rw [v7]; rfl
  have x80 : ixV 8 (cst (.int 0)) ρ = .ok (.lst (T'.map .int)) ρ := by rw [ixV, v8]; simp only [Out.bind, cst]; rw [v8]; rfl
  have x81 : ixV 8 (cst (.int 1)) ρ = .ok (.lst (B'.map .int)) ρ := by rw [ixV, v8]; simp only [Out.bind, cst]; rw [v8]; rfl
  have y70 : ix (ixV 7 (cst (.int 0))) (rd j) ρ = .ok (.int t) ρ := by rw [ix, x70]; simp only [Out.bind]; rw [r]; simp only [Out.bind, iT]; rfl
  have y71 : ix (ixV 7 (cst (.int 1))) (rd j) ρ = .ok (.int b) ρ := by rw [ix, x71]; simp only [Out.bind]; rw [r]; simp only [Out.bind, iB]; rfl
  have y80 : ix (ixV 8 (cst (.int 0))) (rd j) ρ = .ok (.int t') ρ := by rw [ix, x80]; simp only [Out.bind]; rw [r]; simp only [Out.bind, iT']; rfl
  have y81 : ix (ixV 8 (cst (.int 1))) (rd j) ρ = .ok (.int b') ρ := by rw [ix, x81]; simp only [Out.bind]; rw [r]; simp only [Out.bind, iB']; rfl
  have p1 : op2 iMul (ix (ixV 7 (cst (.int 0))) (rd j)) (ix (ixV 8 (cst (.int 1))) (rd j)) ρ = .ok (.int (t * b')) ρ := by
    rw [op2, y70]; simp only [Out.bind]; rw [y81]; simp [Out.bind, iMul, ii, opt, m1]
  have p2 : op2 iMul (ix (ixV 8 (cst (.int 0))) (rd j)) (ix (ixV 7 (cst (.int 1))) (rd j)) ρ = .ok (.int (t' * b)) ρ := by
    rw [op2, y80]; simp only [Out.bind]; rw [y71]; simp [Out.bind, iMul, ii, opt, m2]
  unfold cT
  rw [op2, p1]
  simp only [Out.bind]
  rw [p2]
  have e : decide (t * b' = t' * b) = decide (some s = some s') := by
    rw [decide_eq_decide, Option.some.injEq]
    exact c
  rw [← e]
  rfl
end K74
namespace K74
open PySem PySem.Spec PyProof.Rows L2 Ce
theorem due_step (d : Bool) (P Q : Prop) [Decidable P] [Decidable Q] [Decidable (P ∧ Q)] : (if (!decide Q) = true then false else (decide P && d)) = (decide (P ∧ Q) && d) := by
  by_cases hP : P <;> by_cases hQ : Q <;> simp [hP, hQ]
/-- the slots of law from the values on -/
def sg (x0 x1 x2 x3 x4 x5 : Option O) (i : Int) (T B T' B' : List Int) (d : Bool) (x10 : Option O) : En := [x0, x1, x2, x3, x4, x5, some (.im (.int i)), some (.im (.lst [.lst (T.map .int), .lst (B.map .int)])), some (.im (.lst [.lst (T'.map .int), .lst (B'.map .int)])), some (.im (.bl d)), x10, none]
def cL : En → SOut := (sCons (sIf (tst (cT 10)) (sCons (sSet 9 (cst (.bl false))) sNil) sNil) sNil)
def cD : En → SOut := (sIf (tst (op2 iGe (rd 6) (cst (.int 0)))) (sCons (sSet 9 (cT 6)) (sCons (sFor (itR1 (aC (rd 6) aN)) (gN 10) cL) sNil)) sNil)
theorem due_run {T B T' B' : List Int} {S S' : List Rat} (h : Tell T B S 500) (h' : Tell T' B' S' 500) (l : S.length = 14) (l' : S'.length = 14) (k : Nat) (hk : k < 14) (x0 x1 x2 x3 x4 x5 x10 : Option O) :
    ∃ y10, cD (sg x0 x1 x2 x3 x4 x5 (k : Int) T B T' B' false x10) = .nx (sg x0 x1 x2 x3 x4 x5 (k : Int) T B T' B' (decide (S.take k = S'.take k) && !decide (S[k]? = S'[k]?)) y10) := by
  have e1 : tst (op2 iGe (rd 6) (cst (.int 0))) (sg x0 x1 x2 x3 x4 x5 (k : Int) T B T' B' false x10) = .ok true (sg x0 x1 x2 x3 x4 x5 (k : Int) T B T' B' false x10) := by
    have g : (k : Int) ≥ 0 := by omega
    simp [tst, op2, rd, cst, iGe, ii, opt, Out.bind, sg]
  have e2 : (sSet 9 (cT 6)) (sg x0 x1 x2 x3 x4 x5 (k : Int) T B T' B' false x10) = .nx (sg x0 x1 x2 x3 x4 x5 (k : Int) T B T' B' (!decide (S[k]? = S'[k]?)) x10) := by
    have z := test_run h h' l l' k hk 6 (sg x0 x1 x2 x3 x4 x5 (k : Int) T B T' B' false x10) rfl rfl rfl
    rw [sSet, z]
    rfl
  generalize hd : (!decide (S[k]? = S'[k]?)) = d at e2 ⊢
  have e3 : itR1 (aC (rd 6) aN) (sg x0 x1 x2 x3 x4 x5 (k : Int) T B T' B' d x10) = .ok (rngD 0 1 k) (sg x0 x1 x2 x3 x4 x5 (k : Int) T B T' B' d x10) := itR1_ok (j := (k : Int)) rfl (inR_nat k (by omega))
  obtain ⟨ρ', e4, y10, e5⟩ := forL_inv (g := gN 10) (b := cL) (fun j ρ => ∃ y10, ρ = sg x0 x1 x2 x3 x4 x5 (k : Int) T B T' B' (decide (S.take j = S'.take j) && d) y10) (rngD 0 1 k) 0 (sg x0 x1 x2 x3 x4 x5 (k : Int) T B T' B' d x10) ⟨x10, by simp⟩ (by
    rintro j d' ρ1 hj ⟨y10, rfl⟩
    obtain ⟨hj, rfl⟩ := rng_at hj
    rw [Nat.zero_add, Int.zero_add]
    have z := test_run h h' l l' j (by omega) 10 (sg x0 x1 x2 x3 x4 x5 (k : Int) T B T' B' (decide (S.take j = S'.take j) && d) (some (.im (.int j)))) rfl rfl rfl
    refine ⟨sg x0 x1 x2 x3 x4 x5 (k : Int) T B T' B' (decide (S.take j = S'.take j) && d) (some (.im (.int j))), _, rfl, ?_, some (.im (.int j)), rfl⟩
    have q := due_step d (S.take j = S'.take j) (S[j]? = S'[j]?)
    have q2 : decide (S.take (j + 1) = S'.take (j + 1)) = decide (S.take j = S'.take j ∧ S[j]? = S'[j]?) := by
      rw [decide_eq_decide]
      exact take_eq (by omega) (by omega)
    rw [q2, ← q]
    unfold cL
    refine sNil_r ?_
    unfold sIf tst
    rw [z]
    cases hb : (!decide (S[j]? = S'[j]?)) with
    | true => rfl
    | false => rfl)
  rw [rngD_len, Nat.zero_add] at e5
  subst e5
  refine ⟨y10, ?_⟩
  unfold cD sIf
  rw [e1]
  show sCons (sSet 9 (cT 6)) _ _ = _
  rw [sCons_nx e2]
  refine sNil_r ?_
  rw [sFor, e3]
  exact e4
theorem acc_same (o : D) (l : List D) (S : List Rat) (i : Nat) (hi : i < 14) (h1 : S.length = 14)
    (p1 : ∀ (c : Nat) (ρ : En), c ≤ 14 → fnM 2 [] m_Row_prefix [.ins 5 [o, .tup l], .int c] ρ = .ok (.lst ((S.take c).map fr)) ρ) (ρ : En) :
    fnM 3 [] m_accepts_rows [.ins 5 [o, .tup l], .ins 5 [o, .tup l], dif i] ρ = .ok (.bl false) ρ := by
  rw [acc_run o o l l S S i hi h1 h1 p1 p1]
  simp
/-- the end of law, from the slots' values -/
def cE : En → SOut := (sCons (sSet 11 (cl1 (fnM 3 [] m_accepts_rows) (aC (rd 4) (aC (rd 5) (aC (vTup (aC (cst (.str (PySem.Str.ofString "different"))) (aC (rd 6) aN))) aN))))) (sCons (sIf (tOr2 (tNot1 (tst (isi1 (kIsT "bool" [0, 1, 2, 3, 4, 5]) (rd 11)))) (tst (op2 sNe (rd 11) (rd 9)))) (sCons (sRet (cst (.bl false))) sNil) sNil) (sCons (sRet (vAnd2 (op2 bIs (cl1 (fnM 3 [] m_accepts_rows) (aC (rd 4) (aC (rd 4) (aC (vTup (aC (cst (.str (PySem.Str.ofString "different"))) (aC (cl1 (fun ds => opt (k2 (fun i j => .int (if j > i then j else i)) ds)) (aC (rd 6) (aC (cst (.int 0)) aN))) aN))) aN)))) (cst (.bl false))) (cl1 (fnM 2 [] m__law_refuses_others) (aC (rd 4) (aC (rd 5) aN))))) sNil)))
theorem end_run (x0 x1 x2 x3 x7 x8 x10 : Option O) (o o' : D) (l l' : List D) (i : Int) (d : Bool)
    (h1 : ∀ ρ, fnM 3 [] m_accepts_rows [.ins 5 [o, .tup l], .ins 5 [o', .tup l'], dif i] ρ = .ok (.bl d) ρ)
    (h2 : ∀ ρ, fnM 3 [] m_accepts_rows [.ins 5 [o, .tup l], .ins 5 [o, .tup l], dif (if 0 > i then 0 else i)] ρ = .ok (.bl false) ρ) :
    ∃ ρ, cE [x0, x1, x2, x3, some (.im (.ins 5 [o, .tup l])), some (.im (.ins 5 [o', .tup l'])), some (.im (.int i)), x7, x8, some (.im (.bl d)), x10, none] = .rt (.bl true) ρ := by
  have sz : 2 ≤ sizeLine := by rw [sizeLine_eq]; omega
  have v1 : ∀ (y : Option O) (f : En → Out D) (j : Int), f [x0, x1, x2, x3, some (.im (.ins 5 [o, .tup l])), some (.im (.ins 5 [o', .tup l'])), some (.im (.int i)), x7, x8, some (.im (.bl d)), x10, y] = .ok (.int j) [x0, x1, x2, x3, some (.im (.ins 5 [o, .tup l])), some (.im (.ins 5 [o', .tup l'])), some (.im (.int i)), x7, x8, some (.im (.bl d)), x10, y] → aC (vTup (aC (cst (.str (PySem.Str.ofString "different"))) (aC f aN))) aN [x0, x1, x2, x3, some (.im (.ins 5 [o, .tup l])), some (.im (.ins 5 [o', .tup l'])), some (.im (.int i)), x7, x8, some (.im (.bl d)), x10, y] = .ok [dif j] [x0, x1, x2, x3, some (.im (.ins 5 [o, .tup l])), some (.im (.ins 5 [o', .tup l'])), some (.im (.int i)), x7, x8, some (.im (.bl d)), x10, y] := by
    intro y f j hf
    simp [aC, vTup, cst, aN, Out.bind, hf, sz, dif]
  have e1 : (sSet 11 (cl1 (fnM 3 [] m_accepts_rows) (aC (rd 4) (aC (rd 5) (aC (vTup (aC (cst (.str (PySem.Str.ofString "different"))) (aC (rd 6) aN))) aN))))) [x0, x1, x2, x3, some (.im (.ins 5 [o, .tup l])), some (.im (.ins 5 [o', .tup l'])), some (.im (.int i)), x7, x8, some (.im (.bl d)), x10, none] = .nx [x0, x1, x2, x3, some (.im (.ins 5 [o, .tup l])), some (.im (.ins 5 [o', .tup l'])), some (.im (.int i)), x7, x8, some (.im (.bl d)), x10, some (.im (.bl d))] := by
    have z := v1 none (rd 6) i rfl
    have a : aC (rd 4) (aC (rd 5) (aC (vTup (aC (cst (.str (PySem.Str.ofString "different"))) (aC (rd 6) aN))) aN)) [x0, x1, x2, x3, some (.im (.ins 5 [o, .tup l])), some (.im (.ins 5 [o', .tup l'])), some (.im (.int i)), x7, x8, some (.im (.bl d)), x10, none] = .ok [.ins 5 [o, .tup l], .ins 5 [o', .tup l'], dif i] [x0, x1, x2, x3, some (.im (.ins 5 [o, .tup l])), some (.im (.ins 5 [o', .tup l'])), some (.im (.int i)), x7, x8, some (.im (.bl d)), x10, none] := by
      unfold aC at z ⊢
      simp only [rd, Out.bind, List.getElem?_cons_succ, List.getElem?_cons_zero] at z ⊢
      rw [z]
    rw [sSet, cl1, a]
    simp only [Out.bind]
    rw [h1]
    rfl
  have e2 : (sIf (tOr2 (tNot1 (tst (isi1 (kIsT "bool" [0, 1, 2, 3, 4, 5]) (rd 11)))) (tst (op2 sNe (rd 11) (rd 9)))) (sCons (sRet (cst (.bl false))) sNil) sNil) [x0, x1, x2, x3, some (.im (.ins 5 [o, .tup l])), some (.im (.ins 5 [o', .tup l'])), some (.im (.int i)), x7, x8, some (.im (.bl d)), x10, some (.im (.bl d))] = .nx [x0, x1, x2, x3, some (.im (.ins 5 [o, .tup l])), some (.im (.ins 5 [o', .tup l'])), some (.im (.int i)), x7, x8, some (.im (.bl d)), x10, some (.im (.bl d))] := by
    simp [sIf, tOr2, tNot1, tst, isi1, kIsT, rd, op2, sNe, seq, opt, Out.bind, Out.st, sNil]
  have m : (cl1 (fun ds => opt (k2 (fun i j => .int (if j > i then j else i)) ds)) (aC (rd 6) (aC (cst (.int 0)) aN))) [x0, x1, x2, x3, some (.im (.ins 5 [o, .tup l])), some (.im (.ins 5 [o', .tup l'])), some (.im (.int i)), x7, x8, some (.im (.bl d)), x10, some (.im (.bl d))] = .ok (.int (if 0 > i then 0 else i)) [x0, x1, x2, x3, some (.im (.ins 5 [o, .tup l])), some (.im (.ins 5 [o', .tup l'])), some (.im (.int i)), x7, x8, some (.im (.bl d)), x10, some (.im (.bl d))] := by rfl
  have e3 : (op2 bIs (cl1 (fnM 3 [] m_accepts_rows) (aC (rd 4) (aC (rd 4) (aC (vTup (aC (cst (.str (PySem.Str.ofString "different"))) (aC (cl1 (fun ds => opt (k2 (fun i j => .int (if j > i then j else i)) ds)) (aC (rd 6) (aC (cst (.int 0)) aN))) aN))) aN)))) (cst (.bl false))) [x0, x1, x2, x3, some (.im (.ins 5 [o, .tup l])), some (.im (.ins 5 [o', .tup l'])), some (.im (.int i)), x7, x8, some (.im (.bl d)), x10, some (.im (.bl d))] = .ok (.bl true) [x0, x1, x2, x3, some (.im (.ins 5 [o, .tup l])), some (.im (.ins 5 [o', .tup l'])), some (.im (.int i)), x7, x8, some (.im (.bl d)), x10, some (.im (.bl d))] := by
    have z := v1 (some (.im (.bl d))) _ _ m
    have a : aC (rd 4) (aC (rd 4) (aC (vTup (aC (cst (.str (PySem.Str.ofString "different"))) (aC (cl1 (fun ds => opt (k2 (fun i j => .int (if j > i then j else i)) ds)) (aC (rd 6) (aC (cst (.int 0)) aN))) aN))) aN)) [x0, x1, x2, x3, some (.im (.ins 5 [o, .tup l])), some (.im (.ins 5 [o', .tup l'])), some (.im (.int i)), x7, x8, some (.im (.bl d)), x10, some (.im (.bl d))] = .ok [.ins 5 [o, .tup l], .ins 5 [o, .tup l], dif (if 0 > i then 0 else i)] [x0, x1, x2, x3, some (.im (.ins 5 [o, .tup l])), some (.im (.ins 5 [o', .tup l'])), some (.im (.int i)), x7, x8, some (.im (.bl d)), x10, some (.im (.bl d))] := by
      generalize (cl1 (fun ds => opt (k2 (fun i j => .int (if j > i then j else i)) ds)) (aC (rd 6) (aC (cst (.int 0)) aN))) = f at z ⊢
      unfold aC at z ⊢
      simp only [rd, Out.bind, List.getElem?_cons_succ, List.getElem?_cons_zero] at z ⊢
      rw [z]
    rw [op2, cl1, a]
    simp only [Out.bind]
    rw [h2]
    rfl
  refine ⟨[x0, x1, x2, x3, some (.im (.ins 5 [o, .tup l])), some (.im (.ins 5 [o', .tup l'])), some (.im (.int i)), x7, x8, some (.im (.bl d)), x10, some (.im (.bl d))], ?_⟩
  unfold cE
  rw [sCons_nx e1, sCons_nx e2]
  refine sCons_rt ?_
  rw [sRet, vAnd2, e3]
  simp only [Out.bind]
  rw [cl1]
  show Out.st (fnM 2 [] m__law_refuses_others [.ins 5 [o, .tup l], .ins 5 [o', .tup l']] _) _ = _
  rw [refuses]
  rfl
theorem plain (ns : List Int) (hl : ns.length ≤ 63) (hz : ∀ z ∈ ns, Builtin.Int.intBits z ≤ 1048576) : ∃ ρ, m_law [some (.im (.lst (ns.map D.int)))] = .ok (.bl true) ρ := by
  obtain ⟨zs, lz, -, en⟩ := numbers_run ns hl hz 12 (by omega)
  have at' : ∀ (j : Nat) (h : j < 12), L2.atI (zs.map D.int) (j : Int) = some (.int (zs[j]'(by omega))) := fun j h => at_int (by omega)
  obtain ⟨ps, ini, k1, s1⟩ := seq_run (zs.map .int) 0 _ _ _ _ (at' 0 (by omega)) (at' 1 (by omega)) (at' 2 (by omega)) (at' 3 (by omega)) [some (.im (.lst (ns.map .int))), some (.im (.lst (zs.map .int))), none, none, none, none, none, none, none, none, none, none]
  obtain ⟨ps', ini', k1', s1'⟩ := seq_run (zs.map .int) 4 _ _ _ _ (at' 4 (by omega)) (at' 5 (by omega)) (at' 6 (by omega)) (at' 7 (by omega)) [some (.im (.lst (ns.map .int))), some (.im (.lst (zs.map .int))), some (.im (pD ps ini)), none, none, none, none, none, none, none, none, none]
  obtain ⟨qs, jni, y3, k2', hy, en3⟩ := nest_run (.lst (ns.map .int)) zs lz k1 k1'
  obtain ⟨r, S, T, B, lS, tS, ⟨o, l, rfl⟩, rowS, preS, valS⟩ := good_of k1.mono
  obtain ⟨r', S', T', B', lS', tS', ⟨o', l', rfl⟩, rowS', preS', valS'⟩ := good_of k2'
  have d15 : divOk 15 = true := by decide
  have a11 : L2.atI (zs.map D.int) 11 = some (.int (zs[11]'(by omega))) := at' 11 (by omega)
  generalize (zs[11]'(by omega)) = z11 at a11
  have bi := fm z11 15 (by omega)
  generalize hi : z11.fmod 15 - 2 = i at *
  have f1 : (sSet 1 (cl1 (fnM 2 [] m__law_numbers) (aC (rd 0) (aC (cst (.int 12)) aN)))) [some (.im (.lst (ns.map .int))), none, none, none, none, none, none, none, none, none, none, none] = .nx [some (.im (.lst (ns.map .int))), some (.im (.lst (zs.map .int))), none, none, none, none, none, none, none, none, none, none] := by
    rw [sSet, cl1]
    show Out.st (fnM 2 [] m__law_numbers [.lst (ns.map .int), .int (12 : Nat)] _) _ = _
    rw [en]
    rfl
  have f2 : (sSet 2 (cl1 (fnM 2 [] m__law_sequence) (aC (rd 1) (aC (cst (.int 0)) aN)))) [some (.im (.lst (ns.map .int))), some (.im (.lst (zs.map .int))), none, none, none, none, none, none, none, none, none, none] = .nx [some (.im (.lst (ns.map .int))), some (.im (.lst (zs.map .int))), some (.im (pD ps ini)), none, none, none, none, none, none, none, none, none] := by
    rw [sSet, cl1]
    show Out.st (fnM 2 [] m__law_sequence [.lst (zs.map .int), .int 0] _) _ = _
    rw [s1]
    rfl
  have f3 : (sSet 3 (cl1 (fnM 2 [] m__law_sequence) (aC (rd 1) (aC (cst (.int 4)) aN)))) [some (.im (.lst (ns.map .int))), some (.im (.lst (zs.map .int))), some (.im (pD ps ini)), none, none, none, none, none, none, none, none, none] = .nx [some (.im (.lst (ns.map .int))), some (.im (.lst (zs.map .int))), some (.im (pD ps ini)), some (.im (pD ps' ini')), none, none, none, none, none, none, none, none] := by
    rw [sSet, cl1]
    show Out.st (fnM 2 [] m__law_sequence [.lst (zs.map .int), .int 4] _) _ = _
    rw [s1']
    rfl
  have f4 : (sSet 4 (cl1 (fnM 1 [] m__law_row) (aC (rd 2) aN))) [some (.im (.lst (ns.map .int))), some (.im (.lst (zs.map .int))), some (.im (pD ps ini)), some y3, none, none, none, none, none, none, none, none] = .nx [some (.im (.lst (ns.map .int))), some (.im (.lst (zs.map .int))), some (.im (pD ps ini)), some y3, some (.im (.ins 5 [o, .tup l])), none, none, none, none, none, none, none] := by
    rw [sSet, cl1]
    show Out.st (fnM 1 [] m__law_row [pD ps ini] _) _ = _
    rw [rowS]
    rfl
  have f5 : (sSet 5 (cl1 (fnM 1 [] m__law_row) (aC (rd 3) aN))) [some (.im (.lst (ns.map .int))), some (.im (.lst (zs.map .int))), some (.im (pD ps ini)), some y3, some (.im (.ins 5 [o, .tup l])), none, none, none, none, none, none, none] = .nx [some (.im (.lst (ns.map .int))), some (.im (.lst (zs.map .int))), some (.im (pD ps ini)), some (.im (pD qs jni)), some (.im (.ins 5 [o, .tup l])), some (.im (.ins 5 [o', .tup l'])), none, none, none, none, none, none] := by
    rw [sSet, cl1]
    rcases hy with rfl | rfl
    · show Out.st (fnM 1 [] m__law_row [pD qs jni] _) _ = _
      rw [rowS']
      rfl
    · show Out.st (fnM 1 [] m__law_row [pD qs jni] _) _ = _
      rw [rowS']
      rfl
  have f6 : (sSet 6 (op2 iSub (op2 iMod (ixV 1 (cst (.int 11))) (cst (.int 15))) (cst (.int 2)))) [some (.im (.lst (ns.map .int))), some (.im (.lst (zs.map .int))), some (.im (pD ps ini)), some (.im (pD qs jni)), some (.im (.ins 5 [o, .tup l])), some (.im (.ins 5 [o', .tup l'])), none, none, none, none, none, none] = .nx [some (.im (.lst (ns.map .int))), some (.im (.lst (zs.map .int))), some (.im (pD ps ini)), some (.im (pD qs jni)), some (.im (.ins 5 [o, .tup l])), some (.im (.ins 5 [o', .tup l'])), some (.im (.int i)), none, none, none, none, none] := by
    simp [sSet, op2, ixV, vw, cst, iMod, iSub, ii, opt, Out.bind, Out.st, a11, d15, hi]
  have f7 : (sSet 7 (cl1 (fnM 2 [] m__law_values) (aC (rd 2) (aC (cst (.int 14)) aN)))) [some (.im (.lst (ns.map .int))), some (.im (.lst (zs.map .int))), some (.im (pD ps ini)), some (.im (pD qs jni)), some (.im (.ins 5 [o, .tup l])), some (.im (.ins 5 [o', .tup l'])), some (.im (.int i)), none, none, none, none, none] = .nx [some (.im (.lst (ns.map .int))), some (.im (.lst (zs.map .int))), some (.im (pD ps ini)), some (.im (pD qs jni)), some (.im (.ins 5 [o, .tup l])), some (.im (.ins 5 [o', .tup l'])), some (.im (.int i)), some (.im (.lst [.lst (T.map .int), .lst (B.map .int)])), none, none, none, none] := by
    rw [sSet, cl1]
    show Out.st (fnM 2 [] m__law_values [pD ps ini, .int 14] _) _ = _
    rw [valS]
    rfl
  have f8 : (sSet 8 (cl1 (fnM 2 [] m__law_values) (aC (rd 3) (aC (cst (.int 14)) aN)))) [some (.im (.lst (ns.map .int))), some (.im (.lst (zs.map .int))), some (.im (pD ps ini)), some (.im (pD qs jni)), some (.im (.ins 5 [o, .tup l])), some (.im (.ins 5 [o', .tup l'])), some (.im (.int i)), some (.im (.lst [.lst (T.map .int), .lst (B.map .int)])), none, none, none, none] = .nx [some (.im (.lst (ns.map .int))), some (.im (.lst (zs.map .int))), some (.im (pD ps ini)), some (.im (pD qs jni)), some (.im (.ins 5 [o, .tup l])), some (.im (.ins 5 [o', .tup l'])), some (.im (.int i)), some (.im (.lst [.lst (T.map .int), .lst (B.map .int)])), some (.im (.lst [.lst (T'.map .int), .lst (B'.map .int)])), none, none, none] := by
    rw [sSet, cl1]
    show Out.st (fnM 2 [] m__law_values [pD qs jni, .int 14] _) _ = _
    rw [valS']
    rfl
  have f9 : (sSet 9 (cst (.bl false))) [some (.im (.lst (ns.map .int))), some (.im (.lst (zs.map .int))), some (.im (pD ps ini)), some (.im (pD qs jni)), some (.im (.ins 5 [o, .tup l])), some (.im (.ins 5 [o', .tup l'])), some (.im (.int i)), some (.im (.lst [.lst (T.map .int), .lst (B.map .int)])), some (.im (.lst [.lst (T'.map .int), .lst (B'.map .int)])), none, none, none] = .nx (sg (some (.im (.lst (ns.map .int)))) (some (.im (.lst (zs.map .int)))) (some (.im (pD ps ini))) (some (.im (pD qs jni))) (some (.im (.ins 5 [o, .tup l]))) (some (.im (.ins 5 [o', .tup l']))) i T B T' B' false none) := by rfl
  obtain ⟨d, y10, f10, h1, h2⟩ : ∃ d y10, cD (sg (some (.im (.lst (ns.map .int)))) (some (.im (.lst (zs.map .int)))) (some (.im (pD ps ini))) (some (.im (pD qs jni))) (some (.im (.ins 5 [o, .tup l]))) (some (.im (.ins 5 [o', .tup l']))) i T B T' B' false none) = .nx (sg (some (.im (.lst (ns.map .int)))) (some (.im (.lst (zs.map .int)))) (some (.im (pD ps ini))) (some (.im (pD qs jni))) (some (.im (.ins 5 [o, .tup l]))) (some (.im (.ins 5 [o', .tup l']))) i T B T' B' d y10) ∧ (∀ ρ, fnM 3 [] m_accepts_rows [.ins 5 [o, .tup l], .ins 5 [o', .tup l'], dif i] ρ = .ok (.bl d) ρ) ∧ ∀ ρ, fnM 3 [] m_accepts_rows [.ins 5 [o, .tup l], .ins 5 [o, .tup l], dif (if 0 > i then 0 else i)] ρ = .ok (.bl false) ρ := by
    by_cases hn : i < 0
    · refine ⟨false, none, ?_, acc_neg o o' l l' i hn, ?_⟩
      · have e1 : tst (op2 iGe (rd 6) (cst (.int 0))) (sg (some (.im (.lst (ns.map .int)))) (some (.im (.lst (zs.map .int)))) (some (.im (pD ps ini))) (some (.im (pD qs jni))) (some (.im (.ins 5 [o, .tup l]))) (some (.im (.ins 5 [o', .tup l']))) i T B T' B' false none) = .ok false (sg (some (.im (.lst (ns.map .int)))) (some (.im (.lst (zs.map .int)))) (some (.im (pD ps ini))) (some (.im (pD qs jni))) (some (.im (.ins 5 [o, .tup l]))) (some (.im (.ins 5 [o', .tup l']))) i T B T' B' false none) := by
          have g : ¬ 0 ≤ i := by omega
          simp [tst, op2, rd, cst, iGe, ii, opt, Out.bind, sg, g]
        unfold cD sIf
        rw [e1]
        rfl
      · rw [if_pos (show 0 > i from hn)]
        exact fun ρ => acc_same o l S 0 (by omega) lS preS ρ
    · obtain ⟨k, rfl⟩ : ∃ k : Nat, i = k := ⟨i.toNat, by omega⟩
      obtain ⟨y10, z⟩ := due_run tS tS' lS lS' k (by omega) (some (.im (.lst (ns.map .int)))) (some (.im (.lst (zs.map .int)))) (some (.im (pD ps ini))) (some (.im (pD qs jni))) (some (.im (.ins 5 [o, .tup l]))) (some (.im (.ins 5 [o', .tup l']))) none
      refine ⟨_, y10, z, acc_run o o' l l' S S' k (by omega) lS lS' preS preS', ?_⟩
      rw [if_neg (show ¬ 0 > (k : Int) from hn)]
      exact fun ρ => acc_same o l S k (by omega) lS preS ρ
  obtain ⟨ρ', f11⟩ := end_run (some (.im (.lst (ns.map .int)))) (some (.im (.lst (zs.map .int)))) (some (.im (pD ps ini))) (some (.im (pD qs jni))) (some (.im (.lst [.lst (T.map .int), .lst (B.map .int)]))) (some (.im (.lst [.lst (T'.map .int), .lst (B'.map .int)]))) y10 o o' l l' i d h1 h2
  have f12 : b_law [some (.im (.lst (ns.map .int))), none, none, none, none, none, none, none, none, none, none, none] = .rt (.bl true) ρ' := by
    unfold b_law
    rw [sCons_nx f1, sCons_nx f2, sCons_nx f3]
    refine (sCons_nx en3).trans ?_
    rw [sCons_nx f4, sCons_nx f5, sCons_nx f6, sCons_nx f7, sCons_nx f8, sCons_nx f9]
    refine (sCons_nx f10).trans ?_
    exact f11
  refine ⟨argE [] [some (.im (.lst (ns.map D.int)))] ρ', ?_⟩
  show mOf 12 [] b_law _ = _
  unfold mOf
  have e : ([some (.im (.lst (ns.map D.int)))] : En) ++ List.replicate (12 - ([some (.im (.lst (ns.map D.int)))] : En).length) none = [some (.im (.lst (ns.map .int))), none, none, none, none, none, none, none, none, none, none, none] := by rfl
  rw [e, f12]
end K74
namespace K74
open PySem PySem.Spec PyProof.Rows L2 Ce
abbrev R : PySem.W.OpenRow := PySem.W.OpenLaw.row PySem.Challenge.rw_certsums_k74_different_rows_accepted
abbrev qv : Program := PySem.W.view R.prog [0, 47]
def loose : List PySem.Str := ([(PySem.Str.ofString "gcd"), (PySem.Str.ofString "_wall"), (PySem.Str.ofString "__name__"), (PySem.Str.ofString "SummationError"), (PySem.Str.ofString "DivisionByZero"), (PySem.Str.ofString "ZeroPolynomial"), (PySem.Str.ofString "InvalidRow"), (PySem.Str.ofString "Pole"), (PySem.Str.ofString "Fraction"), (PySem.Str.ofString "is_settled"), (PySem.Str.ofString "settled_from"), (PySem.Str.ofString "may_have_root"), (PySem.Str.ofString "roots_between"), (PySem.Str.ofString "roots_from"), (PySem.Str.ofString "free_from"), (PySem.Str.ofString "trimmed"), (PySem.Str.ofString "content"), (PySem.Str.ofString "Poly"), (PySem.Str.ofString "Poly2"), (PySem.Str.ofString "divide")] : List PySem.Str) ++ ([(PySem.Str.ofString "exact"), (PySem.Str.ofString "monic"), (PySem.Str.ofString "primitive"), (PySem.Str.ofString "common_divisor"), (PySem.Str.ofString "Quotient"), (PySem.Str.ofString "accepts_equal"), (PySem.Str.ofString "accepts_rows"), (PySem.Str.ofString "Operator"), (PySem.Str.ofString "needed"), (PySem.Str.ofString "Row"), (PySem.Str.ofString "_law_numbers"), (PySem.Str.ofString "_law_divisor"), (PySem.Str.ofString "_law_sequence"), (PySem.Str.ofString "_law_row"), (PySem.Str.ofString "_law_horner"), (PySem.Str.ofString "_law_values"), (PySem.Str.ofString "_law_refuses_others")] : List PySem.Str)
abbrev hk : PySem.W.Hook := hookX fs fn
def ob (s : PySem.W.SharedT) : AlX := obsXG fs fn (HandSHeadRun.getT s)
theorem ob_eq (s : PySem.W.SharedT) : ob s = hk.obs s.abs := obsXG_eq (HandSHeadRun.getT_eq s)
theorem run (w : World) : HandSHeadRun.RunEqI R qv hk ob 8000 loose w := by
  unfold HandSHeadRun.RunEqI
  kernel_rfl
theorem facts {P : Program} {w : World} {K : PySem.W.Frag} {h : Heap} {mg : Str → Option Value} {f : Addr} (X : K.In h) (G : h.Ns mainGlobals mg) (hfa : mg (PySem.Str.ofString "law") = some (.ref f)) (c : SaysX fs fn K) :
    ∃ fd : FuncData, (∀ (s : Shared) (v : Value), BindsTo s fd ⟨[v], []⟩ [((PySem.Str.ofString "_law_script"), v)]) ∧ ∀ base : Heap, K.In base → base.Ns mainGlobals mg → FnOk P w K mg base (L2.CX P w) 13 f fd [(PySem.Str.ofString "_law_script")] (spM K (T K) 1 m_law) := by
  have E : Bd K mg h := ⟨c, X, G⟩
  obtain ⟨fd, F⟩ := c.def_ 43 (d := d_law)
  have ef : mg (PySem.Str.ofString "law") = some (.ref (He.ga K (PySem.Str.ofString "law"))) := (glo_of E.X E.G E.f80)
  have e := hfa.symm.trans ef
  cases e
  have b := FunD.bindsA (ps := [(PySem.Str.ofString "_law_script")]) (show FunD K _ _ _ _ _ [] [] _ fd from F) fun _ _ _ _ _ _ us hl => match us, hl with | [_], _ => rfl
  refine ⟨fd, fun s v => b s [v] rfl, fun base _ _ => ?_⟩
  obtain ⟨fd2, F2, G2⟩ := ok_law (P := P) (w := w) (base := base) E
  have e2 := fd_one F F2
  subst e2
  exact G2
end K74
open PySem PySem.W PySem.Calls PyProof.Rows
theorem PySem.Challenge.cw_certsums_k74_different_rows_accepted_holds : PySem.Challenge.rw_certsums_k74_different_rows_accepted.Holds := by
  w_on; o_law
  refine HandSHeadRun.head_imp (r := OpenLaw.row PySem.Challenge.rw_certsums_k74_different_rows_accepted) (q := view (OpenLaw.row PySem.Challenge.rw_certsums_k74_different_rows_accepted).prog [0, 47]) (H := K74.hk) (ob := K74.ob) (M := 8000) (loose := K74.loose) (d := HandSHeadRun.topDef (OpenLaw.row PySem.Challenge.rw_certsums_k74_different_rows_accepted).prog 47) (kwd := []) K74.ob_eq
    K74.run (by kernel_rfl) (by kernel_rfl) (by kernel_rfl) (by rfl) (by first | assumption | decide +kernel) (by decide +kernel) ⟨rfl, rfl, rfl, rfl, rfl, by decide +kernel⟩ ?hw ?hc
  case hw => w_witness2
  case hc =>
    refine Ce.walk_end (l := PySem.Challenge.rw_certsums_k74_different_rows_accepted) (n := 63) (k := 13) (x := (PySem.Str.ofString "_law_script")) rfl (by decide) (by kernel_rfl) ⟨rfl, by decide, by decide⟩ ?F
    intro w mg fa h Y G hmg0
    obtain ⟨K, KX, c⟩ := Y
    have hmg : mg (PySem.Str.ofString "law") = some (.ref fa) := by
      have e : (HandSHeadRun.topDef (OpenLaw.row PySem.Challenge.rw_certsums_k74_different_rows_accepted).prog 47).name = (PySem.Str.ofString "law") := by kernel_rfl
      rw [← e]
      exact hmg0
    obtain ⟨fd, hb, hF⟩ := K74.facts (P := (PySem.Challenge.rw_certsums_k74_different_rows_accepted).prog) (w := w) KX G hmg c
    exact ⟨K, fd, _, KX, hb, fun H a ns hl hz hS => Ce.spM_law hS (K74.plain ns hl hz), hF⟩
